import Derived.Test.YtapilmimgiaglaaGreatDoorKFnExactParcelIx24
import Derived.Test.YtapilmimgiaglaaGreatDoorKFnExactParcelIx27
set_option linter.unusedSimpArgs false
set_option linter.unusedVariables false
namespace Go.Proofs.YtapilmimgiaglaaGreatDoor.QX
open Go.RowKit Go.Proofs.bB.eH Go.Proofs.YtapilmimgiaglaaGreatDoor.Ev0 Go.Proofs.YtapilmimgiaglaaGreatDoor.Num
theorem apx {α:Type}{f:Nat→Option α}{r:α}(h:aa f r):aa (fun k=>f (k+1)) r:=by
 obtain ⟨K,hK⟩:=h
 exact ⟨K,fun k hk=>hK (k+1) om⟩
theorem azg (p:PP)(hk:xG p.kind)(hp:wT p)(fb:FB p (bZ p.kind))(t:Int × Int × Int)(ht:aa (fun k=>eu.f k p.kind (mO p (bZ p.kind))) t)(h0:t.2.2=0) :
    ∃ r:RT,aa (fun k=>bW.f k p.kind (mO p (bZ p.kind))) r ∧
      (((∀ i:Int,0≤i→i<(p.lines.length:Int)→¬ Dm p.kind (p.lines.map (gz p.kind)) i)∧r=(p.kind,p.ref,tZ p,p.day,p.notes,p.lines.map (gz p.kind),0,0)) ∨
       ((∃ i:Int,0≤i∧i<(p.lines.length:Int)∧Dm p.kind (p.lines.map (gz p.kind)) i)∧r.2.2.2.2.2.2.2≠0)):=by
  have hlen:=GX p (bZ p.kind)
  have hd0:=YM p (bZ p.kind)
  have hN:=ada p (bZ p.kind)
  have n2:=fb.notes
  obtain ⟨dT,d0,d1⟩:=aj4 p hp.2.1 fb.doc
  obtain ⟨r,hr,hc⟩:=azh p hk hp fb (tZ p) p.lines.length 0 om
  refine ⟨r,?_,hc⟩
  clear hc
  rw [List.take_zero,Nat.add_zero] at hr
  generalize mO p (bZ p.kind)=body at *
  have L0:aa (fun k=>bW.l0 k p.kind body 1 p.kind p.ref (tZ p) p.day [] []) r:=by
    have key:=qR (p.notes.length:Int) (fun k (s:List ByteArray) i=>bW.l0 k p.kind body (1+i) p.kind p.ref (tZ p) p.day s []) (fun i=>p.notes.take i.toNat) (fun _=>r) ?_ ?_ 0 (Int.le_refl _) om
    · simpa using key
    · intro i g0 hlt ih
      obtain ⟨m,rfl⟩:∃ m:Nat,i=(m:Int):=⟨i.toNat,by omega⟩
      have hm:m<p.notes.length:=by omega
      have hw:wrap64 (1+(m:Int)+1)=1+((m:Int)+1):=by rw [bP om om];omega
      have hpart:=AB nW [p.notes[m]] 0
      simp only [bW.l0,hN m hm,hw]
      rw [show ((m:Int)+1).toNat=m+1 by omega,List.take_succ_eq_append_getElem hm] at ih
      exact aa.pos om (aa.pos om (aa.pos anw (aa.bind (aa.const hpart) (aa.pos (by simp;omega) ih))))
    · have:=apx hr
      rw [Int.toNat_natCast,List.take_of_length_le om]
      rwa [show ((1+p.notes.length:Nat):Int)=1+(p.notes.length:Int) by omega] at this
  have J0:aa (fun k=>bW.j0 k p.kind body p.kind p.ref (tZ p) p.day) r:=by
    apply aa.succ
    simp only [bW.j0]
    exact L0
  unfold bW.f
  refine aa.bind ht (aa.pos h0 (aa.pos om ?_))
  simp only [hd0,akx,Option.bind_some]
  have p0:=AB jX (gp p) 0
  have e0:(gp p).getD 0 iY=p.ref:=by unfold gp;split <;> rfl
  rw [e0] at p0
  refine aa.bind (aa.const p0) ?_
  by_cases c:2≤p.kind∧p.kind≤4
  · have ed:gp p=[p.ref,p.oth,dc p.day]:=by unfold gp;rw [if_pos c]
    have eo:tZ p=p.oth:=by unfold tZ;rw [if_pos c]
    rw [eo] at J0
    have p1:=AB jX (gp p) 1
    have e1:(gp p).getD 1 iY=p.oth:=by rw [ed];rfl
    rw [e1] at p1
    obtain ⟨v,hv,_⟩:=afT p.oth (by have:=hp.2.2.2.1;omega)
    have n1:aa (fun k=>kQ.f k jX ((gp p).map jL) 1) v:=by
      unfold kQ.f
      rw [show (1:Int)=((1:Nat):Int) from rfl,p1]
      simp only [Option.bind_some]
      exact aa.bind hv (aa.pure _)
    have n2':=wS jX (gp p) 2 (by rw [ed];exact dT)
    rw [show (gp p).getD 2 iY=dc p.day by rw [ed];rfl,mr] at n2'
    refine aa.bind n1 ?_
    rw [fT c]
    exact aa.pos rfl (aa.bind (aa.const p1) (aa.bind n2' J0))
  · have ed:gp p=[p.ref,dc p.day]:=by unfold gp;rw [if_neg c]
    have eo:tZ p=iY:=by unfold tZ;rw [if_neg c]
    rw [eo] at J0
    have n1:=wS jX (gp p) 1 (by rw [ed];exact dT)
    rw [show (gp p).getD 1 iY=dc p.day by rw [ed];rfl,mr] at n1
    refine aa.bind n1 ?_
    rw [gq c]
    exact aa.neg (by decide) J0
theorem azU (p:PP)(n2:p.notes.length≤1000)(Wd:p.lines.length≤1000):aa (fun k=>kI.f k p.kind p.ref (tZ p) p.day p.notes (p.lines.map (gz p.kind)) p.kind p.ref p.oth p.day p.notes p.lines) (B (LK p)):=by
 unfold kI.f
 have J:∀ b:Bool,b=true→aa (fun k=>kI.j0 k b p.kind p.ref (tZ p) p.day p.notes (p.lines.map (gz p.kind)) p.kind p.ref p.oth p.day p.notes p.lines) false:=fun b hb=>by
  apply aa.succ
  simp only [kI.j0]
  exact aa.pos hb (aa.pure _)
 refine aa.pos rfl (aa.pos rfl ?_)
 by_cases c:tZ p=p.oth
 ·refine aa.pos (by rw [c]) (aa.pos rfl (aa.pos rfl ?_))
  rw [show (((p.lines.map (gz p.kind)).length:Int) != (p.lines.length:Int))=false by simp]
  apply aa.succ
  simp only [kI.j0]
  refine aa.neg (by simp) ?_
  have L1:=IX ((p.lines.map (gz p.kind)).length:Int) om (fun i=>gz p.kind (ai p.lines i)=ai p.lines i) True (fun k i=>kI.l1 k i p.kind p.ref (tZ p) p.day p.notes (p.lines.map (gz p.kind)) p.kind p.ref p.oth p.day p.notes p.lines) ?_ ?_
  ·have key:=qR (p.notes.length:Int) (fun k (_:Unit) i=>kI.l0 k i p.kind p.ref (tZ p) p.day p.notes (p.lines.map (gz p.kind)) p.kind p.ref p.oth p.day p.notes p.lines) (fun _=>()) (fun _=>B (LK p)) ?_ ?_ 0 (Int.le_refl _) om
   ·exact key
   ·intro i h0 hlt ih
    have hw:wrap64 (i+1)=i+1:=bP om om
    simp only [kI.l0,hw,if_true]
    exact aa.pos hlt (aa.pos h0 (aa.pos hlt ih))
   ·simp only [kI.l0]
    refine aa.neg om (L1.same (kw ?_))
    rw [List.length_map]
    constructor
    ·intro h
     exact ⟨c,(YJ p (fun l=>gz p.kind l=l)).1 h.1⟩
    ·intro h
     exact ⟨(YJ p (fun l=>gz p.kind l=l)).2 h.2,trivial⟩
  ·intro i h0 hlt
   have hlt':i<(p.lines.length:Int):=by rwa [List.length_map] at hlt
   have hw:wrap64 (i+1)=i+1:=bP om om
   simp only [kI.l1,hw,anL p i h0 hlt']
   exact ⟨fun hk r hr=>aa.pos hlt (aa.pos h0 (aa.pos hlt' (aa.neg (fun x=>(aaz _ _).1 x hk) hr))),fun hk=>aa.pos hlt (aa.pos h0 (aa.pos hlt' (aa.pos ((aaz _ _).2 hk) (aa.pure _))))⟩
  ·simp only [kI.l1]
   exact aa.neg om ((aa.pure _).same (fT trivial).symm)
 ·exact aa.neg (fun h=>c (Km.1 h)) ((J true rfl).same (gq (fun h=>c h.1)).symm)
end Go.Proofs.YtapilmimgiaglaaGreatDoor.QX
namespace Go.Proofs.YtapilmimgiaglaaGreatDoor.QX
open Go.RowKit Go.Proofs.bB.eH Go.Proofs.YtapilmimgiaglaaGreatDoor.Ev0 Go.Proofs.YtapilmimgiaglaaGreatDoor.Num
theorem azk {t:ByteArray}(h:t.size≤40)(hc:∀ c ∈ t.data.toList,32≤(c.toNat:Int)∧(c.toNat:Int)≤126):za t :=
 ⟨by omega,(RZ t (fun c=>32≤c∧c≤126)).2 hc⟩
theorem ZI {t:ByteArray}(h:jN t.data.toList)(a: -1000000000≤jf t.data.toList)(b:jf t.data.toList≤1000000000):gd t:=by
 have h12:=afZ _ h a b
 obtain ⟨h1,h2,h3⟩:=h
 have hs:t.data.toList.length≤13:=by
  unfold jb at h12
  split at h12
  ·rw [List.length_tail] at h12;omega
  ·omega
 refine ⟨azk (by rw [← uB];omega) (fun c hc=>?_),fun e=>?_⟩
 ·have hcd:c=45∨mQ c:=by
   unfold jb at h2
   split at h2
   ·rename_i hh
    cases hl:t.data.toList with
    | nil=>rw [hl] at hc;cases hc
    | cons x xs =>
     rw [hl] at hc hh h2
     rcases List.mem_cons.1 hc with rfl|hc
     ·exact .inl (Option.some.inj hh)
     ·exact .inr (h2 c hc)
   ·exact .inr (h2 c hc)
  rcases hcd with rfl|hd
  ·decide
  ·have:=(Zt c).1 hd
   omega
 ·have:=(Cz t).2 (Sb.1 e)
  rw [this] at h1
  exact h1 rfl
theorem avO {c:Int}{t:ByteArray}(h:sM c t):gd t:=by
 unfold sM FR at h
 rcases h with ⟨e,h⟩ | ⟨e,h,a,b⟩ | ⟨e,h,a,b⟩ | ⟨e,⟨h,a,b⟩,_⟩ | ⟨e,h,a,b⟩ | ⟨e,h,g⟩
 ·refine ⟨⟨by have:=h.2.1;omega,fun i h0 hlt=>?_⟩,fun e=>?_⟩
  ·rcases h.2.2.2 i h0 hlt with g|g|g <;> omega
  ·have:=Sb.1 e
   have:=h.1
   omega
 ·exact ZI h om om
 ·exact ZI h om om
 ·exact ZI h om om
 ·exact ZI h om om
 ·exact ⟨g,h⟩
theorem aax {pre all:List UInt8}{ps:List ByteArray}(h:LF pre all ps):∀ t ∈ ps,gd t:=by
 intro t ht
 obtain ⟨j,hj,rfl⟩:=List.mem_iff_getElem.1 ht
 have hja:j<all.length:=by have:=h.2.1;omega
 exact avO (h.2.2 j all[j] ps[j] (List.getElem?_eq_getElem hja) (List.getElem?_eq_getElem hj))
theorem anS (p:PP)(hp:wT p)(i:Int)(h0:0≤i)(h:i<((lQ p).length:Int)) :
  ∃ b,aa (fun k=>iZ.f k (av (lQ p) i).f0 (av (lQ p) i).f1) b∧(FB p (bZ p.kind)→b=true):=by
 have hlen:=GX p (bZ p.kind)
 have tg:lS p.kind=jX∨lS p.kind=nW∨lS p.kind=zJ∨lS p.kind=AO∨lS p.kind=LW:=by
  unfold lS
  repeat' split
  all_goals simp
 change i<((mO p (bZ p.kind)).length:Int) at h
 show ∃ b,aa (fun k=>iZ.f k (av (mO p (bZ p.kind)) i).f0 (av (mO p (bZ p.kind)) i).f1) b∧(FB p (bZ p.kind)→b=true)
 by_cases c0:i=0
 ·subst c0
  rw [YM]
  obtain ⟨b,hb,hg⟩:=aaO jX (.inl rfl) (gp p) (by unfold gp;split <;> simp) (fun t ht=>by
   obtain ⟨_,hd,hr,ho,_⟩:=hp
   have:=Hm hd
   unfold gp at ht
   split at ht <;> simp at ht
   ·rcases ht with rfl|rfl|rfl <;> assumption
   ·rcases ht with rfl|rfl <;> assumption)
  exact ⟨b,hb,fun fb=>hg (aax fb.doc)⟩
 ·by_cases c1:i<1+(p.notes.length:Int)
  ·obtain ⟨m,rfl⟩:∃ m:Nat,i=1+(m:Int):=⟨(i - 1).toNat,by omega⟩
   have hm:m<p.notes.length:=by omega
   rw [ada p _ m hm]
   obtain ⟨b,hb,hg⟩:=aaO nW (.inr (.inl rfl)) [p.notes[m]] (by simp) (fun t ht=>by simp at ht;rw [ht];exact hp.2.2.2.2.1 _ (List.getElem_mem hm))
   exact ⟨b,hb,fun fb=>hg (fun t ht=>by simp at ht;rw [ht];exact ⟨(fb.note _ (List.getElem_mem hm)).2,(fb.note _ (List.getElem_mem hm)).1⟩)⟩
  ·obtain ⟨m,rfl⟩:∃ m:Nat,i=1+(p.notes.length:Int)+(m:Int):=⟨(i - 1 - (p.notes.length:Int)).toNat,by omega⟩
   have hm:m<p.lines.length:=by omega
   rw [ac9 p _ m hm]
   obtain ⟨b,hb,hg⟩:=aaO (lS p.kind) tg (bZ p.kind p.lines[m]) (by have:=We p.kind p.lines[m];omega) (aay (agt hp m hm))
   exact ⟨b,hb,fun fb=>hg (aax (fb.line _ (List.getElem_mem hm)))⟩
def YH (p:PP):Prop:=LK p∧∀ i:Int,0≤i→i<(p.lines.length:Int)→¬ Dm p.kind (p.lines.map (gz p.kind)) i
theorem anX (p:PP)(hp:wT p)(hn:p.notes.length≤40)(hl:p.lines.length≤20)(t:Int × Int × Int)(ht:aa (fun k=>eu.f k p.kind (lQ p)) t) :
  (t.2.2≠0→aa (fun k=>kv.j0 k false p.kind p.ref p.oth p.day p.notes p.lines) false) ∧
  (t.2.2=0→xG p.kind→FB p (bZ p.kind)→aa (fun k=>kv.j0 k false p.kind p.ref p.oth p.day p.notes p.lines) (B (YH p))):=by
 have hb:=ajq p hp hn hl
 have hlen:(lQ p).length=1+p.notes.length+p.lines.length:=GX p (bZ p.kind)
 have L:∀ q:Prop,aa (fun k=>kv.l0 (k+1) (lQ p) ((lQ p).length:Int) p.kind p.ref p.oth p.day p.notes p.lines) (B q) →
   aa (fun k=>kv.j0 k false p.kind p.ref p.oth p.day p.notes p.lines) (B ((∀ i:Int,0≤i→i<((lQ p).length:Int)→aa (fun k=>iZ.f k (av (lQ p) i).f0 (av (lQ p) i).f1) true)∧q)):=by
  intro q hq
  apply aa.succ
  simp only [kv.j0]
  refine aa.neg (by simp) (aa.bind hb ?_)
  refine IX ((lQ p).length:Int) om (fun i=>aa (fun k=>iZ.f k (av (lQ p) i).f0 (av (lQ p) i).f1) true) q (fun k i=>kv.l0 k (lQ p) i p.kind p.ref p.oth p.day p.notes p.lines) ?_ hq
  intro i h0 hlt
  have hw:wrap64 (i+1)=i+1:=bP om om
  obtain ⟨b,hb,_⟩:=anS p hp i h0 hlt
  simp only [kv.l0,hw]
  refine ⟨fun hk r hr=>aa.pos hlt (aa.pos h0 (aa.bind hk (aa.pos rfl hr))),fun hk=>?_⟩
  have hf:b=false:=by
   cases b
   ·rfl
   ·exact absurd hb hk
  rw [hf] at hb
  exact aa.pos hlt (aa.pos h0 (aa.bind hb (aa.neg (by simp) (aa.pure _))))
 refine ⟨fun h=>?_,fun h hk fb=>?_⟩
 ·refine (L False ?_).same (gq (fun x=>x.2))
  simp only [kv.l0]
  rw [gq (fun x=>x)]
  have e:aa (fun k=>bW.f k p.kind (lQ p)) ((0,iY,iY,0,([]:List ByteArray),([]:List LN),t.1,t.2.2):RT):=by
   unfold bW.f
   exact aa.bind ht (aa.neg h (aa.pure _))
  exact aa.neg om (aa.bind e (aa.neg h (aa.pure _)))
 ·refine (L (YH p) ?_).same (kw ⟨fun x=>x.2,fun x=>⟨fun i h0 hlt=>?_,x⟩⟩)
  ·simp only [kv.l0]
   refine aa.neg om ?_
   obtain ⟨r,hr,hc⟩:=azg p hk hp fb t ht h
   refine aa.bind hr ?_
   rcases hc with ⟨h1,rfl⟩ | ⟨⟨i,a,b,c⟩,h2⟩
   ·exact aa.pos rfl (aa.bind (azU p om om) ((aa.pure _).same (kw ⟨fun x=>⟨x,h1⟩,fun x=>x.1⟩)))
   ·exact aa.neg h2 ((aa.pure _).same (gq (fun x=>x.2 i a b c)).symm)
  ·obtain ⟨b,hb,hg⟩:=anS p hp i h0 hlt
   rw [hg fb] at hb
   exact hb
theorem ata (p:PP):YG p ↔ YH p:=by
 unfold YG YH
 refine and_congr_right fun h=>?_
 have e:p.lines.map (gz p.kind)=p.lines:=by
  rw [List.map_congr_left h.2,List.map_id']
 rw [e]
 exact (ate p.kind p.lines).symm
theorem az0 (p:PP)(h:∀ b,p.notes.length≤40→p.lines.length≤20→aa (fun k=>kv.j0 k false p.kind p.ref p.oth p.day p.notes p.lines) b→b=false)(g:p.notes.length≤40→p.lines.length≤20→∃ b,aa (fun k=>kv.j0 k false p.kind p.ref p.oth p.day p.notes p.lines) b):aa (fun k=>kv.f k p.kind p.ref p.oth p.day p.notes p.lines) false:=by
 have T:aa (fun k=>kv.j0 k true p.kind p.ref p.oth p.day p.notes p.lines) false:=by
  apply aa.succ
  simp only [kv.j0]
  exact aa.pos trivial (aa.pure _)
 unfold kv.f
 refine aa.ite (fun _=>T) (fun h1=>?_)
 by_cases c:(p.lines.length:Int)>20
 ·rw [decide_eq_true c];exact T
 ·rw [decide_eq_false c]
  obtain ⟨b,hb⟩:=g om om
  have:=h b om om hb
  rwa [this] at hb
theorem azS (p: PP)(hp: wT p) : ∃ b, aa (fun k => kD.f k p.kind p.ref p.oth p.day p.notes p.lines) b ∧ aa (fun k => kv.f k p.kind p.ref p.oth p.day p.notes p.lines) b ∧ (b = true → xG p.kind ∧ p.notes.length ≤ 2 ∧ p.lines.length ≤ 20 ∧ zh p = lQ p ∧ FB p (bZ p.kind)) := by
  have TI : aa (fun k => kD.j0 k true p.kind p.ref p.oth p.day p.notes p.lines) false := by
    apply aa.succ
    simp only [kD.j0]
    exact aa.pos trivial (aa.pure _)
  have fewS : p.notes.length ≤ 40 → p.lines.length ≤ 20 → EZ (lQ p) := fun hn hl => akj p hp hn hl (bZ p.kind) (fun l h => ⟨We _ l, aay h⟩)
  have fewI' : p.notes.length ≤ 40 → p.lines.length ≤ 20 → EZ (zh p) := fun hn hl => akj p hp hn hl (mW p.kind) (fun l h => ⟨afW _ l, ann h⟩)
  -- the reference says no where no table of its body can fit
  have SN : (p.notes.length ≤ 40 → p.lines.length ≤ 20 → ¬ (tab p.kind ≠ [] ∧ Fits (lQ p) (tab p.kind) 0)) → aa (fun k => kv.f k p.kind p.ref p.oth p.day p.notes p.lines) false := fun h => by
    have key : p.notes.length ≤ 40 → p.lines.length ≤ 20 → aa (fun k => kv.j0 k false p.kind p.ref p.oth p.day p.notes p.lines) false := fun hn hl => by
      obtain ⟨r, hs, _, hf⟩ := agI p.kind (lQ p) (fewS hn hl)
      exact (anX p hp hn hl r hs).1 (fun e => h hn hl ⟨(hf e).1, (hf e).2.2⟩)
    exact az0 p (fun b hn hl hb => Te hb (key hn hl)) (fun hn hl => ⟨false, key hn hl⟩)
  unfold kD.f
  simp only [AR, Option.bind_some]
  by_cases hk : 1 ≤ p.kind ∧ p.kind ≤ 7
  rotate_left
  · refine ⟨false, ?_, SN (fun hn hl x => x.1 ?_), fun e => nomatch e⟩
    · rw [gq hk]
      exact aa.neg (by simp) TI
    · rcases kinds p.kind with h | ⟨_, h⟩
      · omega
      · exact h
  rw [fT hk]
  by_cases hn2 : (p.notes.length : Int) > 2
  · refine ⟨false, aa.pos rfl (aa.pos hn2 TI), SN (fun hn hl x => ?_), fun e => nomatch e⟩
    have := (ZC p hk (bZ p.kind) (fewS hn hl) x.2).notes
    omega
  by_cases aei : (p.lines.length : Int) > 20
  · refine ⟨false, aa.pos rfl (aa.neg hn2 (by rw [decide_eq_true aei]; exact TI)), SN (fun hn hl x => by omega), fun e => nomatch e⟩
  rw [decide_eq_false aei]
  have I : ∀ b, aa (fun k => kD.j0 k false p.kind p.ref p.oth p.day p.notes p.lines) b → aa (fun k => if true = true then (if (p.notes.length : Int) > 2 then (kD.j0 k true p.kind p.ref p.oth p.day p.notes p.lines) else (kD.j0 k false p.kind p.ref p.oth p.day p.notes p.lines)) else (kD.j0 k true p.kind p.ref p.oth p.day p.notes p.lines)) b := fun b h => aa.pos rfl (aa.neg hn2 h)
  have S : ∀ b, aa (fun k => kv.j0 k false p.kind p.ref p.oth p.day p.notes p.lines) b → aa (fun k => kv.f k p.kind p.ref p.oth p.day p.notes p.lines) b := fun b h => by
    unfold kv.f
    rw [decide_eq_false aei]
    exact aa.neg om h
  have hn : p.notes.length ≤ 40 := by omega
  have hl : p.lines.length ≤ 20 := by omega
  by_cases he : ∀ l ∈ p.lines, mW p.kind l = bZ p.kind l
  · have eb : zh p = lQ p := by
      unfold zh lQ
      have : p.lines.map (fun l => sg (lS p.kind) (mW p.kind l)) = p.lines.map (fun l => sg (lS p.kind) (bZ p.kind l)) := List.map_congr_left (fun l h => by rw [he l h])
      rw [this]
    obtain ⟨r, hs, hi, hf⟩ := agI p.kind (lQ p) (fewS hn hl)
    rw [← eb] at hi
    have HI := amV p hk hp om hl r hi
    have HS := anX p hp hn hl r hs
    by_cases c : r.2.2 = 0
    · obtain ⟨_, _, hfit⟩ := hf c
      have fS := ZC p hk (bZ p.kind) (fewS hn hl) hfit
      have fI : FB p (mW p.kind) := ⟨fS.notes, fS.lines, fS.doc, fS.note, fun l h => by rw [he l h]; exact fS.line l h⟩
      refine ⟨B (YG p), I _ (HI.2 c fI), S _ ?_, fun _ => ⟨hk, by omega, hl, eb, fS⟩⟩
      rw [kw (ata p)]
      exact HS.2 c hk fS
    · exact ⟨false, I _ (HI.1 c), S _ (HS.1 c), fun e => nomatch e⟩
  · have h3 : p.kind = 3 := by
      rcases Int.decEq p.kind 3 with g | g
      · exact absurd (fun l _ => by unfold mW; rw [if_neg g]) he
      · exact g
    have hex : ∃ l ∈ p.lines, ¬ l.f4.toList = ([] : List UInt8) := by
      rcases Classical.em (∃ l ∈ p.lines, ¬ l.f4.toList = ([] : List UInt8)) with g | g
      · exact g
      · refine absurd (fun l hm => ?_) he
        have : l.f4.toList = ([] : List UInt8) := Classical.byContradiction fun x => g ⟨l, hm, x⟩
        unfold mW bZ oF
        rw [h3, this]
        simp
    obtain ⟨l, hm, hne⟩ := hex
    have sN := SN (fun hn hl x => by
      have fS := ZC p hk (bZ p.kind) (fewS hn hl) x.2
      have := (fS.line l hm).2.1
      unfold bZ oF uM Av at this
      rw [h3] at this
      simp [hne] at this)
    refine ⟨false, ?_, sN, fun e => nomatch e⟩
    obtain ⟨r, _, hi, hf⟩ := agI p.kind (zh p) (fewI' hn hl)
    have HI := amV p hk hp om hl r hi
    by_cases c : r.2.2 = 0
    · obtain ⟨_, _, hfit⟩ := hf c
      have fI := ZC p hk (mW p.kind) (fewI' hn hl) hfit
      refine I _ ((HI.2 c fI).same (gq (fun x => hne ?_)))
      have := x.1.2 l hm
      rw [← this, h3]
      exact Sb.2 rfl
    · exact I _ (HI.1 c)
end Go.Proofs.YtapilmimgiaglaaGreatDoor.QX
namespace Go.Proofs.YtapilmimgiaglaaGreatDoor.QX
open Go.RowKit Go.Proofs.bB.eH Go.Proofs.YtapilmimgiaglaaGreatDoor.Ev0 Go.Proofs.YtapilmimgiaglaaGreatDoor.Num
theorem V8 {x:Int}(h:(Rd.EK .i64) x):i64 x:=by
 have h':(Lit.int .i64 x).wf=true:=h
 simp only [Lit.wf,Bool.and_eq_true,decide_eq_true_eq] at h'
 exact ⟨h'.1,h'.2⟩
def PG (x:mJ):Prop:=i64 x.f0∧(x.f1.size:Int)≤9223372036854775807∧i64 x.f2∧i64 x.f3∧(x.f4.size:Int)≤9223372036854775807
theorem ay0 {x:mJ}(h:agM x):PG x:=by
 obtain ⟨h0,h1,h2,h3,h4⟩:=h
 have g1:x.f1.size≤2 ^ 63 - 1:=h1
 have g4:x.f4.size≤2 ^ 63 - 1:=h4
 exact ⟨V8 h0,by omega,V8 h2,V8 h3,by omega⟩
def PU (x:mJ):Prop:=x.f1.size≤1048576∧x.f4.size≤1048576
theorem az6 (x:mJ)(hx:PG x)(left:Int)(h0:0≤left)(h1:left≤1048576):GQ (fun _=>LB.f x.f0 x.f1 x.f2 x.f3 x.f4 left) left (PU x):=by
 obtain ⟨_,ha,_,_,hb⟩:=hx
 unfold LB.f
 rw [MR h0 h1 om ha]
 by_cases g:left - (x.f1.size:Int)<0
 ·exact ⟨-1,aa.pos g (aa.pure _),.inl (by decide)⟩
 ·rw [MR om om om hb]
  by_cases g2:left - (x.f1.size:Int) - (x.f4.size:Int)<0
  ·exact ⟨-1,aa.neg g (aa.pos g2 (aa.pure _)),.inl (by decide)⟩
  ·exact ⟨_,aa.neg g (aa.neg g2 (aa.pure _)),.inr ⟨by omega,by omega,by unfold PU;omega⟩⟩
theorem az5 (l:List mJ)(hl:l.length≤9223372036854775807)(hx:∀ x ∈ l,PG x)(left:Int)(h0:0≤left)(h1:left≤1048576):GQ (fun k=>wN.f k l left) left (l.length≤1048576∧∀ x ∈ l,PU x):=by
 have key:=agv l.length hl (fun i=>PU (nH l i)) (fun k=>wN.f k l left) (fun k s i=>wN.l0 k l s i) left h0 h1 (fun k=>rfl) ?_ ?_
 ·obtain ⟨t,ht,h⟩:=key
  exact ⟨t,ht,h.imp id (fun ⟨g0,g1,g2,g3⟩=>⟨g0,g1,g2,YI l z127 PU g3⟩)⟩
 ·intro s i h0 hlt hs0 hs1
  have hw:wrap64 (i+1)=i+1:=bP om om
  have hk:PG (nH l i):=by
   unfold nH
   rw [getD_at l _ _ om]
   exact hx _ (List.getElem_mem _)
  obtain ⟨t,ht,h2⟩:=az6 _ hk s hs0 hs1
  simp only [wN.l0,hw]
  rcases h2 with h2 | ⟨h2,h3,h4⟩
  ·exact .inl ⟨-1,by decide,aa.pos hlt (aa.pos h0 (aa.bind ht (aa.pos h2 (aa.pure _))))⟩
  ·exact .inr ⟨t,h2,h3,h4,fun r hr=>aa.pos hlt (aa.pos h0 (aa.bind ht (aa.neg om hr)))⟩
 ·intro s i hi
  simp only [wN.l0]
  exact aa.neg om (aa.pure _)
theorem az8 (kind:Int)(ref oth:ByteArray)(day:Int)(notes:List ByteArray)(lines:List mJ)(hr:(ref.size:Int)≤9223372036854775807)(ho:(oth.size:Int)≤9223372036854775807)(hn:okT notes)(hl:lines.length≤9223372036854775807)(hx:∀ x ∈ lines,PG x)(left:Int)(h0:0≤left)(h1:left≤1048576) :
  GQ (fun k=>II.f k kind ref oth day notes lines left) left (ref.size≤1048576∧oth.size≤1048576∧ZA notes∧lines.length≤1048576∧∀ x ∈ lines,PU x):=by
 unfold II.f
 rw [MR h0 h1 om hr]
 by_cases g:left - (ref.size:Int)<0
 ·exact ⟨-1,aa.pos g (aa.pure _),.inl (by decide)⟩
 rw [MR om om om ho]
 by_cases g2:left - (ref.size:Int) - (oth.size:Int)<0
 ·exact ⟨-1,aa.neg g (aa.pos g2 (aa.pure _)),.inl (by decide)⟩
 obtain ⟨t,ht,h2⟩:=aAb notes hn (left - (ref.size:Int) - (oth.size:Int)) om om
 rcases h2 with h2 | ⟨h2,h3,h4⟩
 ·exact ⟨-1,aa.neg g (aa.neg g2 (aa.bind ht (aa.pos h2 (aa.pure _)))),.inl (by decide)⟩
 obtain ⟨u,hu,h5⟩:=az5 lines hl hx t h2 om
 rcases h5 with h5 | ⟨h5,h6,h7,h8⟩
 ·exact ⟨-1,aa.neg g (aa.neg g2 (aa.bind ht (aa.neg om (aa.bind hu (aa.pos h5 (aa.pure _)))))),.inl (by decide)⟩
 ·exact ⟨u,aa.neg g (aa.neg g2 (aa.bind ht (aa.neg om (aa.bind hu (aa.neg om (aa.pure _)))))),.inr ⟨h5,by omega,by omega,by omega,h4,h7,h8⟩⟩
def SK (x:mJ):aZ:=⟨x.f0,x.f1,x.f2,x.f3,x.f4⟩
theorem aCl (l:List mJ)(hl:l.length≤1048576):aa (fun k=>wQ.f k l) (l.map SK):=by
 unfold wQ.f
 refine aa.pos om (aa.pos om ?_)
 rw [Int.toNat_natCast]
 refine adV l z127 Eh SK (fun k acc i=>wQ.l0 k l acc i) ?_ ?_
 ·intro acc i h0 hlt ha r hr
  have hw:wrap64 (i+1)=i+1:=bP om om
  simp only [wQ.l0,Py.f,Option.bind_some,hw]
  exact aa.pos hlt (aa.pos h0 (aa.pos om hr))
 ·intro acc i hi
  simp only [wQ.l0]
  exact aa.neg om (aa.pure _)
theorem aCm (kind:Int)(ref oth:ByteArray)(day:Int)(notes:List ByteArray)(lines:List mJ)(hn:notes.length≤1048576)(hl:lines.length≤1048576):aa (fun k=>LG.f k kind ref oth day notes lines) (kind,ref,oth,day,notes,lines.map SK):=by
 unfold LG.f
 exact aa.bind (aCo notes hn) (aa.bind (aCl lines hl) (aa.pure _))
theorem avv (a:Int)(b:ByteArray)(c d:Int)(e:ByteArray):Lv.f a b c d e a b c d e=some true:=by
 simp only [Lv.f,if_true]
theorem avu (l:List aZ)(hl:l.length≤9000000):aa (fun k=>wE.f k l l) true:=by
 unfold wE.f
 refine aa.pos rfl (BA (l.length:Int) om (fun k i=>wE.l0 k l l i) ?_ ?_)
 ·intro i h0 hlt ih
  have hw:wrap64 (i+1)=i+1:=bP om om
  simp only [wE.l0,avv,Option.bind_some,hw]
  exact aa.pos hlt (aa.pos h0 (aa.pos hlt (aa.pos (by simp) ih)))
 ·simp only [wE.l0]
  exact aa.neg om (aa.pure _)
theorem avx (kind:Int)(ref oth:ByteArray)(day:Int)(notes:List ByteArray)(lines:List aZ)(hn:notes.length≤9000000)(hl:lines.length≤9000000):aa (fun k=>IE.f k kind ref oth day notes lines kind ref oth day notes lines) true:=by
 unfold IE.f
 exact aa.pos rfl (aa.pos rfl (aa.pos rfl (aa.pos rfl (aa.bind (akf notes hn) (aa.pos rfl (aa.bind (avu lines hl) (aa.pos rfl (aa.pure _))))))))
end Go.Proofs.YtapilmimgiaglaaGreatDoor.QX
namespace Go.Proofs.YtapilmimgiaglaaGreatDoor.QX
open Go.RowKit Go.Proofs.bB.eH Go.Proofs.YtapilmimgiaglaaGreatDoor.Ev0 Go.Proofs.YtapilmimgiaglaaGreatDoor.Num
def xm (x:mK):eT:=⟨x.f0,x.f1,x.f2,x.f3,x.f4,x.f5.map SK⟩
def IZ (x:mK):Prop:=x.f4.length≤1048576∧x.f5.length≤1048576∧wT ⟨x.f0,x.f1,x.f2,x.f3,x.f4,x.f5.map SK⟩
theorem az7 (x:mK)(hx:MQ x)(left:Int)(h0:0≤left)(h1:left≤1048576):GQ (fun k=>II.f k x.f0 x.f1 x.f2 x.f3 x.f4 x.f5 left) left (IZ x):=by
 obtain ⟨w0,w1,w2,w3,w4,w5⟩:=hx
 have a1:x.f1.size≤2 ^ 63 - 1:=w1
 have a2:x.f2.size≤2 ^ 63 - 1:=w2
 have a4:x.f4.length≤2 ^ 63 - 1:=w4.1
 have a5:x.f5.length≤2 ^ 63 - 1:=w5.1
 have hx:∀ y ∈ x.f5,PG y:=fun y h=>ay0 (w5.2 y h)
 have hn:okT x.f4:=⟨by omega,fun y h=>by have g:y.size≤2 ^ 63 - 1:=w4.2 y h;omega⟩
 obtain ⟨t,ht,h⟩:=az8 x.f0 x.f1 x.f2 x.f3 x.f4 x.f5 om om hn om hx left h0 h1
 refine ⟨t,ht,h.imp id (fun ⟨g0,g00,g1,g2,g3,g4,g5⟩=>⟨g0,g00,g3.1,g4,V8 w0,V8 w3,g1,g2,g3.2,fun l hl=>?_⟩)⟩
 obtain ⟨y,hy,rfl⟩:=List.mem_map.1 hl
 have k:=hx y hy
 exact ⟨⟨k.1,k.2.2.1,k.2.2.2.1⟩,(g5 y hy).1,(g5 y hy).2⟩
theorem aAa (l:List mK)(hl:l.length≤9223372036854775807)(hx:∀ x ∈ l,MQ x)(left:Int)(h0:0≤left)(h1:left≤1048576):GQ (fun k=>wO.f k l left) left (l.length≤1048576∧∀ x ∈ l,IZ x):=by
 have key:=agv l.length hl (fun i=>IZ (jW l i)) (fun k=>wO.f k l left) (fun k s i=>wO.l0 k l s i) left h0 h1 (fun k=>rfl) ?_ ?_
 ·obtain ⟨t,ht,h⟩:=key
  exact ⟨t,ht,h.imp id (fun ⟨g0,g1,g2,g3⟩=>⟨g0,g1,g2,YI l z56 IZ g3⟩)⟩
 ·intro s i h0 hlt hs0 hs1
  have hw:wrap64 (i+1)=i+1:=bP om om
  have hk:MQ (jW l i):=by
   unfold jW
   rw [getD_at l _ _ om]
   exact hx _ (List.getElem_mem _)
  obtain ⟨t,ht,h2⟩:=az7 _ hk s hs0 hs1
  simp only [wO.l0,hw]
  rcases h2 with h2 | ⟨h2,h3,h4⟩
  ·exact .inl ⟨-1,by decide,aa.pos hlt (aa.pos h0 (aa.bind ht (aa.pos h2 (aa.pure _))))⟩
  ·exact .inr ⟨t,h2,h3,h4,fun r hr=>aa.pos hlt (aa.pos h0 (aa.bind ht (aa.neg om hr)))⟩
 ·intro s i hi
  simp only [wO.l0]
  exact aa.neg om (aa.pure _)
theorem az9 (s q:ByteArray)(n:Int)(l:List mK)(hs:s.size≤9223372036854775807)(hq:q.size≤9223372036854775807)(hl:l.length≤9223372036854775807)(hx:∀ x ∈ l,MQ x):GQ (fun k=>LD.f k s q n l 1048576) 1048576 (s.size≤1048576∧q.size≤1048576∧l.length≤1048576∧∀ x ∈ l,IZ x):=by
 unfold LD.f
 rw [MR om om om om]
 by_cases g:1048576 - (s.size:Int)<0
 ·exact ⟨-1,aa.pos g (aa.pure _),.inl (by decide)⟩
 rw [MR om om om om]
 by_cases g2:1048576 - (s.size:Int) - (q.size:Int)<0
 ·exact ⟨-1,aa.neg g (aa.pos g2 (aa.pure _)),.inl (by decide)⟩
 obtain ⟨t,ht,h2⟩:=aAa l hl hx (1048576 - (s.size:Int) - (q.size:Int)) om om
 rcases h2 with h2 | ⟨h2,h3,h4,h5⟩
 ·exact ⟨-1,aa.neg g (aa.neg g2 (aa.bind ht (aa.pos h2 (aa.pure _)))),.inl (by decide)⟩
 ·exact ⟨t,aa.neg g (aa.neg g2 (aa.bind ht (aa.neg om (aa.pure _)))),.inr ⟨h2,by omega,by omega,by omega,h4,h5⟩⟩
theorem aCn (l:List mK)(hl:l.length≤1048576)(hx:∀ x ∈ l,IZ x):aa (fun k=>uK.f k l) (l.map xm):=by
 unfold uK.f
 refine aa.pos om (aa.pos om ?_)
 rw [Int.toNat_natCast]
 refine adV l z56 z45 xm (fun k acc i=>uK.l0 k l acc i) ?_ ?_
 ·intro acc i h0 hlt ha r hr
  have hw:wrap64 (i+1)=i+1:=bP om om
  have hk:IZ (jW l i):=by
   unfold jW
   rw [getD_at l _ _ om]
   exact hx _ (List.getElem_mem _)
  simp only [uK.l0,hw]
  exact aa.pos hlt (aa.pos h0 (aa.bind (aCm _ _ _ _ _ _ hk.1 hk.2.1) (aa.pos om hr)))
 ·intro acc i hi
  simp only [uK.l0]
  exact aa.neg om (aa.pure _)
theorem avy (l:List mK)(hl:l.length≤1048576)(hx:∀ x ∈ l,IZ x):aa (fun k=>nT.f k (l.map xm) (l.map xm)) true:=by
 unfold nT.f
 have e:((l.map xm).length:Int)=(l.length:Int):=by simp
 have hx':∀ x ∈ l.map xm,x.f4.length≤9000000∧x.f5.length≤9000000:=fun x m=>by
  obtain ⟨y,hy,rfl⟩:=List.mem_map.1 m
  have:=hx y hy
  exact ⟨by have:=this.1;simp only [xm];omega,by have:=this.2.1;simp [xm];omega⟩
 generalize l.map xm=L at e hx' ⊢
 refine aa.pos rfl (BA (L.length:Int) om (fun k i=>nT.l0 k L L i) ?_ ?_)
 ·intro i h0 hlt ih
  have hw:wrap64 (i+1)=i+1:=bP om om
  have hk:(aG L i).f4.length≤9000000∧(aG L i).f5.length≤9000000:=by
   unfold aG
   rw [getD_at L _ _ om]
   exact hx' _ (List.getElem_mem _)
  simp only [nT.l0,hw]
  exact aa.pos hlt (aa.pos h0 (aa.pos hlt (aa.bind (avx _ _ _ _ _ _ hk.1 hk.2) (aa.pos rfl ih))))
 ·simp only [nT.l0]
  exact aa.neg om (aa.pure _)
end Go.Proofs.YtapilmimgiaglaaGreatDoor.QX
namespace Go.Proofs.YtapilmimgiaglaaGreatDoor.QX
open Go.RowKit Go.Proofs.bB.eH Go.Proofs.YtapilmimgiaglaaGreatDoor.Ev0 Go.Proofs.YtapilmimgiaglaaGreatDoor.Num
def aa5 (tag:ByteArray):Prop:=tag=jX∨tag=nW∨tag=zJ∨tag=AO∨tag=LW
def RS (x:bn):Prop:=∃ tag ps,x=sg tag ps∧aa5 tag∧ps.length≤10∧∀ t ∈ ps,gd t
theorem adZ {t:ByteArray}(h:gd t):t.size≤40:=by have:=h.1.1;omega
theorem azX {x:bn}(h:RS x):aa (fun k=>iZ.f k x.f0 x.f1) true:=by
 obtain ⟨tag,ps,rfl,ht,hl,hg⟩:=h
 obtain ⟨b,hb,h⟩:=aaO tag ht ps hl (fun t m=>by have:=adZ (hg t m);omega)
 rwa [h hg] at hb
theorem ay2 {x:bn}(h:RS x):I5.f x.f0=some false:=by
 obtain ⟨tag,ps,rfl,ht,_,_⟩:=h
 show I5.f tag=some false
 unfold I5.f
 simp only [Lib.toList_data]
 rcases ht with rfl|rfl|rfl|rfl|rfl <;> decide
theorem axS (tag:ByteArray)(h:aa5 tag):Lf.f tag=some true:=by
 unfold Lf.f
 simp only [am4,Option.bind_some]
 have hb:(tag.size:Int)=3∧(65≤bt tag 0∧bt tag 0≤90)∧(65≤bt tag 1∧bt tag 1≤90)∧(65≤bt tag 2∧bt tag 2≤90):=by
  rcases h with rfl|rfl|rfl|rfl|rfl <;> decide
 rw [fT hb.2.1,fT hb.2.2.1,fT hb.2.2.2,if_pos hb.1,if_pos om,if_pos rfl,if_pos om,if_pos rfl,if_pos om]
theorem ayU (tag:ByteArray)(h:aa5 tag)(l:List ByteArray)(hl:(l.length:Int)≤1000)(hn:∀ x ∈ l,tag.toList≠x.toList):aa (fun k=>L9.f k l tag) false:=by
 unfold L9.f xL.f
 refine aa.bind (a:=-1) ?_ ((aa.pure _).same rfl)
 refine qR (l.length:Int) (fun k (_:Unit) i=>xL.l0 k l tag (l.length:Int) i) (fun _=>()) (fun _=>-1) ?_ ?_ 0 (Int.le_refl _) om
 ·intro i h0 hlt ih
  have hw:wrap64 (i+1)=i+1:=bP om om
  simp only [xL.l0,hw]
  exact aa.pos hlt (aa.pos h0 (aa.pos hlt (aa.neg (hn _ (IU l i h0 hlt)) ih)))
 ·simp only [xL.l0]
  exact aa.neg om (aa.pure _)
theorem ay1 (t:ByteArray)(h:gd t):aa (fun k=>L8.f k [t]) false:=by
 unfold L8.f yG.f
 refine aa.bind (a:=-1) ?_ ((aa.pure _).same rfl)
 apply aa.succ
 simp only [yG.l0]
 have hp:=afK t (by have:=adZ h;omega)
 rw [fT h.1] at hp
 refine aa.pos (by simp) (aa.pos (by simp) (aa.pos (by simp) (aa.bind (a:=false) ?_ (aa.neg (by simp) ?_))))
 ·unfold Ph.f
  exact aa.bind hp (aa.pure _)
 ·rw [show wrap64 (0+1)=1 from bP om om]
  apply aa.succ
  simp only [yG.l0]
  exact aa.neg (by simp) (aa.pure _)
theorem azW {x:bn}(h:RS x):aa (fun k=>uH.f k x.f0 x.f1) true:=by
 obtain ⟨tag,ps,rfl,ht,hl,hg⟩:=h
 have hel:((ps.map jL).length:Int)=(ps.length:Int):=by simp
 unfold uH.f nQ.f
 show aa (fun k=>(nQ.l0 k (ps.map jL) ((ps.map jL).length:Int) 0 tag (ps.map jL)).bind _) true
 refine aa.bind (a:=true) ?_ (aa.pos rfl ?_)
 ·refine BA ((ps.map jL).length:Int) om (fun k i=>nQ.l0 k (ps.map jL) ((ps.map jL).length:Int) i tag (ps.map jL)) ?_ ?_
  ·intro i h0 hlt ih
   have hlt':i<(ps.length:Int):=by omega
   have hw:wrap64 (i+1)=i+1:=bP om om
   have g:=hg _ (IU ps i h0 hlt')
   simp only [nQ.l0,Zu ps i h0 hlt',AR,Option.bind_some]
   refine aa.pos hlt (aa.pos h0 (aa.pos hlt ?_))
   rw [fT (p:=1≤(([bA ByteArray.empty ps i]:List ByteArray).length:Int)∧(([bA ByteArray.empty ps i]:List ByteArray).length:Int)≤4) (by simp)]
   refine aa.pos rfl (aa.bind (ay1 _ g) ?_)
   apply aa.succ
   simp only [nQ.j1,hw]
   have e0:wrap64 ((([bA ByteArray.empty ps i]:List ByteArray).length:Int) - 1)=0:=bP (by simp) (by simp)
   simp only [e0]
   refine aa.neg (by simp) (aa.pos om (aa.pos (by simp) (aa.neg (fun e=>g.2 e) ih)))
  ·simp only [nQ.l0,axS tag ht,Option.bind_some]
   exact aa.neg om (aa.pos trivial ((aa.pure _).same (decide_eq_true om)))
 ·unfold Pp.f
  simp only [Option.bind_some]
  refine aa.bind (ayU tag ht _ (by decide) (fun x m=>?_)) (aa.pure _)
  show tag.toList≠x.toList
  rw [Lib.toList_data,Lib.toList_data]
  revert x
  rcases ht with rfl|rfl|rfl|rfl|rfl <;> decide
theorem atl (p:PP)(fb:FB p (bZ p.kind)):∀ x ∈ lQ p,RS x:=fun x hx=>by
 unfold lQ at hx
 rcases List.mem_cons.1 hx with rfl|hx
 ·exact ⟨_,_,rfl,.inl rfl,by unfold gp;split <;> simp,aax fb.doc⟩
 ·rcases List.mem_append.1 hx with hx|hx
  ·obtain ⟨y,hy,rfl⟩:=List.mem_map.1 hx
   exact ⟨_,_,rfl,.inr (.inl rfl),by simp,fun t ht=>by simp at ht;rw [ht];exact ⟨(fb.note _ hy).2,(fb.note _ hy).1⟩⟩
  ·obtain ⟨y,hy,rfl⟩:=List.mem_map.1 hx
   refine ⟨_,_,rfl,?_,by have:=We p.kind y;omega,aax (fb.line _ hy)⟩
   unfold lS aa5
   repeat' split
   all_goals simp
end Go.Proofs.YtapilmimgiaglaaGreatDoor.QX
namespace Go.Proofs.YtapilmimgiaglaaGreatDoor.QX
open Go.RowKit Go.Proofs.bB.eH Go.Proofs.YtapilmimgiaglaaGreatDoor.Ev0 Go.Proofs.YtapilmimgiaglaaGreatDoor.Num
abbrev Bu:=eT
abbrev nk:=dR
abbrev NK:=iG
def pp (x:Bu):PP:=⟨x.f0,x.f1,x.f2,x.f3,x.f4,x.f5⟩
def RP (x:Bu):Prop:=∃ b,aa (fun k=>gZ.f k x.f0 x.f1 x.f2 x.f3 x.f4 x.f5) b∧aa (fun k=>fQ.f k x.f0 x.f1 x.f2 x.f3 x.f4 x.f5) b∧(1≤x.f0∧x.f0≤7)∧b.length≤40∧∀ s ∈ b,RS s
theorem azi (x:Bu)(hp:wT (pp x)):∃ b,aa (fun k=>kD.f k x.f0 x.f1 x.f2 x.f3 x.f4 x.f5) b∧aa (fun k=>kv.f k x.f0 x.f1 x.f2 x.f3 x.f4 x.f5) b∧(b=true→RP x):=by
 obtain ⟨b,hI,hS,h⟩:=azS (pp x) hp
 refine ⟨b,hI,hS,fun e=>?_⟩
 obtain ⟨hk,hn,hl,e,fb⟩:=h e
 have h1:=ajp (pp x) hk hp om hl
 rw [e] at h1
 refine ⟨lQ (pp x),h1,ajq (pp x) hp om hl,hk,?_,atl _ fb⟩
 have:(lQ (pp x)).length=1+(pp x).notes.length+(pp x).lines.length:=GX (pp x) (bZ (pp x).kind)
 omega
def Ru (m:NK):Prop:=(1≤m.f0∧m.f0≤999999)∧m.f1.length≤40∧∀ s ∈ m.f1,RS s
def mZ (n:Nat)(b:nk):Prop:=(1≤b.f0∧b.f0≤7)∧(1≤b.f1∧b.f1≤999999)∧1≤b.f2.length∧b.f2.length≤n∧∀ m ∈ b.f2,Ru m
theorem mZ.up {n m:Nat}{b:nk}(h:mZ n b)(e:n≤m):mZ m b:=⟨h.1,h.2.1,h.2.2.1,by have:=h.2.2.2.1;omega,h.2.2.2.2⟩
def Wp (z:nk)(i:Int)(b:List bn):nk:=⟨z.f0,z.f1,z.f2++[(⟨i+1,b⟩:NK)]⟩
theorem agp (ys:List nk)(z:nk):bf (ys++[z]) (((ys++[z]).length:Int) - 1)=z:=by
 unfold bf
 have e:(((ys++[z]).length:Int) - 1).toNat=ys.length:=by simp
 rw [e,getD_at _ _ _ (by simp)]
 simp
theorem anW (ys:List nk)(z w:nk):(ys++[z]).set ((ys++[z]).length - 1) w=ys++[w]:=by simp
theorem l1I (x:Bu)(i:Int)(ys:List nk)(z:nk)(h0:0≤i)(hi:i≤1000)(hz:z.f2.length≤1000)(b)(hb:aa (fun k=>gZ.f k x.f0 x.f1 x.f2 x.f3 x.f4 x.f5) b):aa (fun k=>jm.l1 k x i (ys++[z])) (ys++[Wp z i b]):=by
 unfold jm.l1
 simp only [agp,anW]
 rw [show wrap64 (i+1)=i+1 from bP om om]
 exact aa.pos ⟨by simp,by omega⟩ (aa.bind hb (aa.pure _))
theorem l1S (x:Bu)(i:Int)(ys:List nk)(z:nk)(h0:0≤i)(hi:i≤1000)(hz:z.f2.length≤1000)(b)(hb:aa (fun k=>fQ.f k x.f0 x.f1 x.f2 x.f3 x.f4 x.f5) b):aa (fun k=>jq.l1 k x i (ys++[z])) (ys++[Wp z i b]):=by
 unfold jq.l1
 simp only [agp,anW]
 rw [show wrap64 (i+1)=i+1 from bP om om]
 exact aa.pos ⟨by simp,by omega⟩ (aa.bind hb (aa.pure _))
theorem anJ (z:nk)(i:Int)(b)(n:Nat)(h0:0≤i)(hi:i≤1000)(hk:1≤z.f0∧z.f0≤7)(hc:1≤z.f1∧z.f1≤999999)(hn:z.f2.length+1≤n)(hm:∀ m ∈ z.f2,Ru m)(hl:b.length≤40)(hs:∀ s ∈ b,RS s):mZ n (Wp z i b):=by
 refine ⟨hk,hc,by simp [Wp],by simp [Wp];omega,fun m hmm=>?_⟩
 rcases List.mem_append.1 hmm with h|h
 ·exact hm m h
 ·rw [List.mem_singleton.1 h]
  exact ⟨⟨by show 1≤i+1;omega,by show i+1≤999999;omega⟩,hl,hs⟩
theorem ajf {P:List Bu}{q:Bu→Prop}(h:∀ x ∈ P,q x)(i:Int)(h0:0≤i)(hlt:i<(P.length:Int)):q (aG P i):=by
 unfold aG
 rw [getD_at P _ _ om]
 exact h _ (List.getElem_mem _)
def aij (P:List Bu)(i:Int)(l:List nk):Prop:=(i=0∧l=[])∨(0<i∧∃ ys z,l=ys++[z]∧z.f0=(aG P (i - 1)).f0∧(l.length:Int)≤i∧∀ b ∈ l,mZ i.toNat b)
theorem axX (P: List Bu)(hP: ∀ x ∈ P, RP x)(hn: P.length ≤ 50)(d: Nat) : ∀ (i : Int) (l : List nk), 0 ≤ i → i ≤ (P.length : Int) → (P.length : Int) - i ≤ d → aij P i l →
    ∃ r, aa (fun k => jm.l0 k P i l) r ∧ aa (fun k => jq.l0 k P i l) r ∧ r.length ≤ 50 ∧ ∀ b ∈ r, mZ 50 b := by
  have stop : ∀ (i : Int) (l : List nk), 0 ≤ i → i = (P.length : Int) → aij P i l → ∃ r, aa (fun k => jm.l0 k P i l) r ∧ aa (fun k => jq.l0 k P i l) r ∧ r.length ≤ 50 ∧ ∀ b ∈ r, mZ 50 b := by
    intro i l h0 e hv
    refine ⟨l, ?_, ?_, ?_, ?_⟩
    · apply aa.succ
      simp only [jm.l0]
      exact aa.neg om (aa.pure _)
    · apply aa.succ
      simp only [jq.l0]
      exact aa.neg om (aa.pure _)
    · rcases hv with ⟨_, rfl⟩ | ⟨_, _, _, _, _, h, _⟩
      · simp
      · omega
    · rcases hv with ⟨_, rfl⟩ | ⟨_, _, _, _, _, h, hb⟩
      · simp
      · exact fun b m => (hb b m).up om
  induction d with
  | zero => exact fun i l h0 h1 hd hv => stop i l h0 om hv
  | succ d ih =>
    intro i l h0 h1 hd hv
    by_cases hlt : i < (P.length : Int)
    rotate_left
    · exact stop i l h0 om hv
    have hw : wrap64 (i + 1) = i + 1 := bP om om
    obtain ⟨b, bI, bS, hk, hl, hs⟩ := ajf hP i h0 hlt
    have ll : (l.length : Int) ≤ i := by
      rcases hv with ⟨e, rfl⟩ | ⟨_, _, _, _, _, h, _⟩
      · simp [e]
      · exact h
    -- a list that both make of this paper
    have go : ∀ ys z, (∀ y ∈ ys, mZ (i + 1).toNat y) → (ys.length : Int) ≤ i → mZ (i + 1).toNat z → z.f0 = (aG P i).f0 →
        (∀ cI cS : Nat → Option (List nk), aa cI (ys ++ [z]) → aa cS (ys ++ [z]) → ∃ r, aa (fun k => (cI k).bind fun c => jm.l0 k P (i + 1) c) r ∧ aa (fun k => (cS k).bind fun c => jq.l0 k P (i + 1) c) r ∧ r.length ≤ 50 ∧ ∀ b ∈ r, mZ 50 b) := by
      intro ys z hy hyl hz ez cI cS hI hS
      obtain ⟨r, r1, r2, r3⟩ := ih (i + 1) (ys ++ [z]) om om om (.inr ⟨by omega, ys, z, rfl, by rw [ez, show i + 1 - 1 = i by omega], by simp; omega, fun b m => by
        rcases List.mem_append.1 m with m | m
        · exact hy b m
        · rw [List.mem_singleton.1 m]; exact hz⟩)
      exact ⟨r, aa.bind hI r1, aa.bind hS r2, r3⟩
    have new : (∀ b ∈ l, mZ (i + 1).toNat b) → ∃ c, aa (fun k => jm.l2 k (aG P i) i l) c ∧ aa (fun k => jq.l2 k (aG P i) i l) c ∧ ∃ ys z, c = ys ++ [z] ∧ (∀ y ∈ ys, mZ (i + 1).toNat y) ∧ (ys.length : Int) ≤ i ∧ mZ (i + 1).toNat z ∧ z.f0 = (aG P i).f0 := by
      intro hb
      have e : wrap64 ((l.length : Int) + 1) = (l.length : Int) + 1 := bP om om
      refine ⟨_, l1I _ i l ⟨(aG P i).f0, wrap64 ((l.length : Int) + 1), []⟩ h0 om (by simp) b bI, l1S _ i l ⟨(aG P i).f0, wrap64 ((l.length : Int) + 1), []⟩ h0 om (by simp) b bS, l, _, rfl, hb, ll, ?_, rfl⟩
      rw [e]
      exact anJ _ i b _ h0 om hk ⟨by show (1 : Int) ≤ (l.length : Int) + 1; omega, by show (l.length : Int) + 1 ≤ 999999; omega⟩ (by simp; omega) (by simp) hl hs
    have fin : ∀ (F G : Nat → Option (List nk)) c, aa F c → aa G c → (∃ ys z, c = ys ++ [z] ∧ (∀ y ∈ ys, mZ (i + 1).toNat y) ∧ (ys.length : Int) ≤ i ∧ mZ (i + 1).toNat z ∧ z.f0 = (aG P i).f0) →
        ∃ r, aa (fun k => (F k).bind fun c => jm.l0 k P (i + 1) c) r ∧ aa (fun k => (G k).bind fun c => jq.l0 k P (i + 1) c) r ∧ r.length ≤ 50 ∧ ∀ b ∈ r, mZ 50 b := by
      rintro F G c hF hG ⟨ys, z, rfl, a1, a2, a3, a4⟩
      exact go ys z a1 a2 a3 a4 F G hF hG
    suffices key : ∃ c, aa (fun k => if i = 0 then jm.l2 k (aG P i) i l else if 0 ≤ wrap64 (i - 1) then (if wrap64 (i - 1) < (P.length : Int) then (if (aG P i).f0 = (aG P (wrap64 (i - 1))).f0 then jm.l1 k (aG P i) i l else jm.l2 k (aG P i) i l) else none) else none) c ∧
        aa (fun k => if (l.length : Int) = 0 then jq.l2 k (aG P i) i l else if (bf l ((l.length : Int) - 1)).f0 = (aG P i).f0 then jq.l1 k (aG P i) i l else jq.l2 k (aG P i) i l) c ∧
        ∃ ys z, c = ys ++ [z] ∧ (∀ y ∈ ys, mZ (i + 1).toNat y) ∧ (ys.length : Int) ≤ i ∧ mZ (i + 1).toNat z ∧ z.f0 = (aG P i).f0 by
      obtain ⟨c, c1, c2, c3⟩ := key
      obtain ⟨r, r1, r2, r3⟩ := fin _ _ c c1 c2 c3
      refine ⟨r, ?_, ?_, r3⟩
      · apply aa.succ
        simp only [jm.l0, hw]
        exact aa.pos hlt (aa.pos h0 (aa.pos om r1))
      · apply aa.succ
        simp only [jq.l0, hw]
        exact aa.pos hlt (aa.pos h0 (aa.pos om r2))
    rcases hv with ⟨rfl, rfl⟩ | ⟨hi, ys, z, rfl, ez, _, hb⟩
    · obtain ⟨c, c1, c2, c3⟩ := new (by simp)
      exact ⟨c, aa.pos rfl c1, aa.pos rfl c2, c3⟩
    · have hw1 : wrap64 (i - 1) = i - 1 := bP om om
      simp only [hw1, agp]
      have hbu : ∀ b ∈ ys ++ [z], mZ (i + 1).toNat b := fun b m => (hb b m).up om
      by_cases e : (aG P i).f0 = (aG P (i - 1)).f0
      · have hz := hb z (by simp)
        have hz2 : z.f2.length ≤ 1000 := by have := hz.2.2.2.1; omega
        exact ⟨_, aa.neg om (aa.pos om (aa.pos om (aa.pos e (l1I _ i ys z h0 om hz2 b bI)))), aa.neg (by simp; omega) (aa.pos (ez.trans e.symm) (l1S _ i ys z h0 om hz2 b bS)), ys, _, rfl, fun y m => hbu y (by simp [m]), by simp at ll; omega,
          anJ z i b _ h0 om hz.1 hz.2.1 (by have := hz.2.2.2.1; omega) hz.2.2.2.2 hl hs, ez.trans e.symm⟩
      · obtain ⟨c, c1, c2, c3⟩ := new hbu
        exact ⟨c, aa.neg om (aa.pos om (aa.pos om (aa.neg e c1))), aa.neg (by simp; omega) (aa.neg (fun x => e (x.symm.trans ez)) c2), c3⟩
end Go.Proofs.YtapilmimgiaglaaGreatDoor.QX
namespace Go.Proofs.YtapilmimgiaglaaGreatDoor.QX
open Go.RowKit Go.Proofs.bB.eH Go.Proofs.YtapilmimgiaglaaGreatDoor.Ev0 Go.Proofs.YtapilmimgiaglaaGreatDoor.Num
theorem afL (n:Int):Cu.f n=some (B (1≤n∧n≤999999)):=by
 unfold Cu.f
 rw [AR]
 rfl
theorem afS (n:Int):CB.f n=some (B (1≤n∧n≤999999)):=by
 unfold CB.f
 by_cases h:n≥1
 ·rw [if_pos h,Dt]
  exact congrArg some (kw ⟨fun x=>⟨h,x⟩,fun x=>x.2⟩)
 ·rw [if_neg h,gq (fun x=>h x.1)]
theorem aje {l:List NK}{q:NK→Prop}(h:∀ x ∈ l,q x)(i:Int)(h0:0≤i)(hlt:i<(l.length:Int)):q (fJ l i):=by
 unfold fJ
 rw [getD_at l _ _ om]
 exact h _ (List.getElem_mem _)
theorem ajd {l:List nk}{q:nk→Prop}(h:∀ x ∈ l,q x)(i:Int)(h0:0≤i)(hlt:i<(l.length:Int)):q (bf l i):=by
 unfold bf
 rw [getD_at l _ _ om]
 exact h _ (List.getElem_mem _)
theorem ajg {l:List bn}{q:bn→Prop}(h:∀ x ∈ l,q x)(i:Int)(h0:0≤i)(hlt:i<(l.length:Int)):q (av l i):=by
 unfold av
 rw [getD_at l _ _ om]
 exact h _ (List.getElem_mem _)
theorem ayR {m:NK}(h:Ru m):aa (fun k=>Lj.f k m.f0 m.f1) true:=by
 obtain ⟨hc,hl,hs⟩:=h
 unfold Lj.f Pi.f xD.f
 simp only [afL,fT hc,Option.bind_some]
 refine aa.pos trivial (aa.pos om (aa.bind (a:=false) (aa.bind (a:=-1) ?_ ((aa.pure _).same rfl)) (aa.pure _)))
 refine qR (m.f1.length:Int) (fun k (_:Unit) i=>xD.l0 k m.f1 (m.f1.length:Int) i) (fun _=>()) (fun _=>-1) ?_ ?_ 0 (Int.le_refl _) om
 ·intro i h0 hlt ih
  have hw:wrap64 (i+1)=i+1:=bP om om
  simp only [xD.l0,Po.f,hw]
  exact aa.pos hlt (aa.pos h0 (aa.pos hlt (aa.bind (a:=false) (aa.bind (azW (ajg hs i h0 hlt)) (aa.pure _)) (aa.neg (by simp) ih))))
 ·simp only [xD.l0]
  exact aa.neg om (aa.pure _)
theorem atu {b:nk}(h:mZ 50 b):aa (fun k=>Le.f k b.f0 b.f1 b.f2) (B ((b.f2.length:Int)≤10)):=by
 obtain ⟨hk,hc,h1,hn,hm⟩:=h
 unfold Le.f Pd.f xB.f
 simp only [afL,AR,fT hc,fT hk,Option.bind_some]
 refine aa.pos trivial (aa.pos trivial ?_)
 by_cases c:(b.f2.length:Int)≤10
 rotate_left
 ·rw [gq c,gq (fun x=>c x.2)]
  exact aa.neg (by simp) (aa.pure _)
 rw [fT c,fT (p:=1≤(b.f2.length:Int)∧(b.f2.length:Int)≤10) ⟨by omega,c⟩]
 refine aa.pos rfl (aa.bind (a:=false) (aa.bind (a:=-1) ?_ ((aa.pure _).same rfl)) (aa.pure _))
 refine qR (b.f2.length:Int) (fun k (_:Unit) i=>xB.l0 k b.f2 (b.f2.length:Int) i) (fun _=>()) (fun _=>-1) ?_ ?_ 0 (Int.le_refl _) om
 ·intro i h0 hlt ih
  have hw:wrap64 (i+1)=i+1:=bP om om
  simp only [xB.l0,Pj.f,hw]
  exact aa.pos hlt (aa.pos h0 (aa.pos hlt (aa.bind (a:=false) (aa.bind (ayR (aje hm i h0 hlt)) (aa.pure _)) (aa.neg (by simp) ih))))
 ·simp only [xB.l0]
  exact aa.neg om (aa.pure _)
def Tf (l:List nk):Prop:=∀ i:Int,0≤i→i<(l.length:Int)→((bf l i).f2.length:Int)≤10
theorem atv (l:List nk)(hl:l.length≤50)(h:∀ b ∈ l,mZ 50 b):aa (fun k=>(Lc.f k l).bind fun t=>some (!t)) (B (Tf l)):=by
 unfold Lc.f xz.f
 have key:=ZB (l.length:Int) om (fun i=>¬ ((bf l i).f2.length:Int)≤10) (fun k i=>xz.l0 k l (l.length:Int) i) ?_ ?_
 ·obtain ⟨r,hr,hc⟩:=key
  refine aa.bind (aa.bind hr (aa.pure _)) ((aa.pure _).same ?_)
  rcases hc with ⟨rfl,hc⟩ | ⟨h0,hlt,hc,_⟩
  ·rw [fT (p:=Tf l) (fun i a b=>Classical.byContradiction (hc i a b))]
   rfl
  ·rw [gq (p:=Tf l) (fun x=>hc (x r h0 hlt)),decide_eq_true h0]
   rfl
 ·intro i h0 hlt
  have hw:wrap64 (i+1)=i+1:=bP om om
  have hb:=atu (ajd h i h0 hlt)
  simp only [xz.l0,Pb.f,hw]
  refine ⟨fun hp=>?_,fun hp r hr=>?_⟩
  ·rw [gq hp] at hb
   exact aa.pos hlt (aa.pos h0 (aa.pos hlt (aa.bind (a:=true) (aa.bind hb (aa.pure _)) (aa.pos rfl (aa.pure _)))))
  ·rw [fT (Classical.not_not.1 hp)] at hb
   exact aa.pos hlt (aa.pos h0 (aa.pos hlt (aa.bind (a:=false) (aa.bind hb (aa.pure _)) (aa.neg (by simp) hr))))
 ·simp only [xz.l0]
  exact aa.neg om (aa.pure _)
theorem atw (s q:ByteArray)(n:Int)(l:List nk)(hl:l.length≤50)(h:∀ b ∈ l,mZ 50 b):aa (fun k=>fE.l0 k 0 s q n l) (B (Tf l)):=by
 refine (IX (l.length:Int) om (fun i=>((bf l i).f2.length:Int)≤10) True (fun k i=>fE.l0 k i s q n l) ?_ ?_).same (kw ⟨fun x=>x.1,fun x=>⟨x,trivial⟩⟩)
 ·intro i h0 hlt
  have hw:wrap64 (i+1)=i+1:=bP om om
  have hb:=ajd h i h0 hlt
  generalize hz:bf l i=z at hb
  obtain ⟨hk,hc,h1,hn,hm⟩:=hb
  simp only [fE.l0,hz,afS,fT hc,Option.bind_some]
  have J:∀ r,aa (fun k=>fE.j2 k i (decide ((z.f2.length:Int)>10)) s q n l z.f0 z.f1 z.f2) r→aa (fun k=>if i<(l.length:Int) then (if 0≤i then (if z.f0<1 then fE.j2 k i true s q n l z.f0 z.f1 z.f2 else (if z.f0>7 then fE.j2 k i true s q n l z.f0 z.f1 z.f2 else (if True then (if (z.f2.length:Int)<1 then fE.j2 k i true s q n l z.f0 z.f1 z.f2 else fE.j2 k i (decide ((z.f2.length:Int)>10)) s q n l z.f0 z.f1 z.f2) else fE.j2 k i true s q n l z.f0 z.f1 z.f2))) else none) else some true) r:=fun r hr=>aa.pos hlt (aa.pos h0 (aa.neg om (aa.neg om (aa.pos trivial (aa.neg om hr)))))
  refine ⟨fun hq r hr=>J r ?_,fun hq=>J _ ?_⟩
  ·rw [decide_eq_false om]
   apply aa.succ
   simp only [fE.j2]
   refine aa.neg (by simp) ?_
   refine qR (z.f2.length:Int) (fun k (_:Unit) j=>fE.l1 k i j s q n l z.f0 z.f1 z.f2) (fun _=>()) (fun _=>r) ?_ ?_ 0 (Int.le_refl _) om
   ·intro j j0 jlt ih
    have hw2:wrap64 (j+1)=j+1:=bP om om
    have hmj:=aje hm j j0 jlt
    generalize hy:fJ z.f2 j=y at hmj
    obtain ⟨mc,ml,ms⟩:=hmj
    simp only [fE.l1,hy,afS,fT mc,Option.bind_some]
    refine aa.pos jlt (aa.pos j0 (aa.pos trivial ?_))
    rw [decide_eq_false om]
    apply aa.succ
    simp only [fE.j4]
    refine aa.neg (by simp) ?_
    refine qR (y.f1.length:Int) (fun k (_:Unit) e=>fE.l2 k i j e s q n l z.f0 z.f1 z.f2 y.f0 y.f1) (fun _=>()) (fun _=>r) ?_ ?_ 0 (Int.le_refl _) om
    ·intro e e0 elt ih2
     have hw3:wrap64 (e+1)=e+1:=bP om om
     have hx:=ajg ms e e0 elt
     simp only [fE.l2,ay2 hx,Option.bind_some,hw3]
     exact aa.pos elt (aa.pos e0 (aa.bind (azX hx) (aa.pos rfl (aa.neg (by simp) ih2))))
    ·simp only [fE.l2,hw2]
     exact aa.neg om ih
   ·simp only [fE.l1,hw]
    exact aa.neg om hr
  ·rw [decide_eq_true om]
   apply aa.succ
   simp only [fE.j2]
   exact aa.pos trivial (aa.pure _)
 ·simp only [fE.l0]
  exact aa.neg om ((aa.pure _).same (fT trivial).symm)
theorem axW (s q:ByteArray)(n:Int)(l:List nk)(hs:s.size≤1048576)(hq:q.size≤1048576)(hl:l.length≤50)(h:∀ b ∈ l,mZ 50 b):∃ b,aa (fun k=>Ld.f k s q n l) b∧aa (fun k=>fE.f k s q n l) b:=by
 unfold Ld.f fE.f
 simp only [afL,afS,AR,Option.bind_some]
 have iI:=aaq s om
 have iS:=agu s om
 have qI:=aaq q om
 have qS:=agu q om
 have T:aa (fun k=>fE.j0 k true s q n l) false:=by
  apply aa.succ
  simp only [fE.j0]
  exact aa.pos trivial (aa.pure _)
 generalize Pz s=b1 at iI iS
 generalize Pz q=b2 at qI qS
 cases b1
 ·exact ⟨false,aa.bind iI (aa.neg (by simp) (aa.pure _)),aa.bind iS (aa.neg (by simp) T)⟩
 cases b2
 ·exact ⟨false,aa.bind iI (aa.pos rfl (aa.bind qI (aa.neg (by simp) (aa.pure _)))),aa.bind iS (aa.pos rfl (aa.bind qS (aa.neg (by simp) T)))⟩
 by_cases c:1≤n∧n≤999999
 rotate_left
 ·rw [gq c]
  exact ⟨false,aa.bind iI (aa.pos rfl (aa.bind qI (aa.pos rfl (aa.neg (by simp) (aa.pure _))))),aa.bind iS (aa.pos rfl (aa.bind qS (aa.pos rfl (aa.neg (by simp) T))))⟩
 rw [fT c]
 by_cases e:1≤(l.length:Int)∧(l.length:Int)≤5
 rotate_left
 ·rw [gq e]
  refine ⟨false,aa.bind iI (aa.pos rfl (aa.bind qI (aa.pos rfl (aa.pos rfl (aa.neg (by simp) (aa.pure _)))))),aa.bind iS (aa.pos rfl (aa.bind qS (aa.pos rfl (aa.pos rfl (aa.ite (fun _=>T) (fun g=>?_))))))⟩
  rw [decide_eq_true om]
  exact T
 rw [fT e]
 refine ⟨B (Tf l),aa.bind iI (aa.pos rfl (aa.bind qI (aa.pos rfl (aa.pos rfl (aa.pos rfl (atv l hl h)))))),aa.bind iS (aa.pos rfl (aa.bind qS (aa.pos rfl (aa.pos rfl (aa.neg om ?_)))))⟩
 rw [decide_eq_false om]
 apply aa.succ
 simp only [fE.j0]
 exact aa.neg (by simp) (atw s q n l hl h)
theorem azj (s q:ByteArray)(n:Int)(P:List Bu)(hs:s.size≤1048576)(hq:q.size≤1048576)(hl:P.length≤1048576)(h:∀ x ∈ P,wT (pp x)):∃ b,aa (fun k=>wz.f k s q n P) b∧aa (fun k=>sZ.f k s q n P) b∧(b=true→∃ l,aa (fun k=>jm.l0 k P 0 []) l∧aa (fun k=>jq.l0 k P 0 []) l∧l.length≤50∧∀ b ∈ l,mZ 50 b):=by
 unfold wz.f sZ.f Pe.f xC.f
 have T:aa (fun k=>wz.j0 k true s q n P) false:=by
  apply aa.succ
  simp only [wz.j0]
  exact aa.pos trivial (aa.pure _)
 by_cases c:(P.length:Int)>50
 ·exact ⟨false,aa.pos c T,aa.pos c (aa.pure _),fun e=>by cases e⟩
 have hp:∀ i:Int,0≤i→i<(P.length:Int)→_:=fun i h0 hlt=>azi _ (ajf h i h0 hlt)
 let bad:Int→Prop:=fun i=>aa (fun k=>kD.f k (aG P i).f0 (aG P i).f1 (aG P i).f2 (aG P i).f3 (aG P i).f4 (aG P i).f5) false
 have key:=ZB (P.length:Int) om bad (fun k i=>xC.l0 k P (P.length:Int) i) ?_ ?_
 ·obtain ⟨r,hr,hc⟩:=key
  have good:∀ i:Int,0≤i→i<(P.length:Int)→¬ bad i→RP (aG P i)∧aa (fun k=>kv.f k (aG P i).f0 (aG P i).f1 (aG P i).f2 (aG P i).f3 (aG P i).f4 (aG P i).f5) true:=fun i h0 hlt hb=>by
   obtain ⟨b,bI,bS,hR⟩:=hp i h0 hlt
   cases b
   ·exact absurd bI hb
   ·exact ⟨hR rfl,bS⟩
  have step:∀ i:Int,0≤i→i<(P.length:Int)→¬ bad i→∀ b,aa (fun k=>sZ.l0 k (i+1) s q n P) b→aa (fun k=>sZ.l0 (k+1) i s q n P) b:=fun i h0 hlt hb b hb'=>by
   have hw:wrap64 (i+1)=i+1:=bP om om
   simp only [sZ.l0,hw]
   exact aa.pos hlt (aa.pos h0 (aa.bind (good i h0 hlt hb).2 (aa.pos rfl hb')))
  rcases hc with ⟨rfl,hc⟩ | ⟨h0,hlt,hbad,hc⟩
  ·have hRP:∀ x ∈ P,RP x:=YI P z45 RP (fun i h0 hlt=>(good i h0 hlt (hc i h0 hlt)).1)
   obtain ⟨l,l1,l2,l3,l4⟩:=axX P hRP om P.length 0 [] (Int.le_refl _) om om (.inl ⟨rfl,rfl⟩)
   obtain ⟨b,bI,bS⟩:=axW s q n l hs hq l3 l4
   refine ⟨b,aa.neg c (aa.bind (aa.bind hr (aa.pure _)) ?_),aa.neg c ?_,fun _=>⟨l,l1,l2,l3,l4⟩⟩
   ·rw [show decide ((-1:Int)≥0)=false from rfl]
    apply aa.succ
    simp only [wz.j0,jm.f]
    exact aa.neg (by simp) (aa.bind (aa.bind l1 (aa.pure _)) (aa.bind bI (aa.pure _)))
   ·refine qR (P.length:Int) (fun k (_:Unit) i=>sZ.l0 k i s q n P) (fun _=>()) (fun _=>b) (fun i h0 hlt ih=>step i h0 hlt (hc i h0 hlt) b ih) ?_ 0 (Int.le_refl _) om
    simp only [sZ.l0,jq.f]
    exact aa.neg om (aa.bind (aa.bind l2 (aa.pure _)) (aa.bind bS (aa.pure _)))
  ·refine ⟨false,aa.neg c (aa.bind (aa.bind hr (aa.pure _)) ?_),aa.neg c ?_,fun e=>by cases e⟩
   ·rw [decide_eq_true h0]
    exact T
   ·refine qR r (fun k (_:Unit) i=>sZ.l0 k i s q n P) (fun _=>()) (fun _=>false) (fun i h0 hlt' ih=>step i h0 om (hc i h0 hlt') false ih) ?_ 0 (Int.le_refl _) h0
    obtain ⟨b,bI,bS,_⟩:=hp r h0 hlt
    have:=Te bI hbad
    subst this
    simp only [sZ.l0]
    exact aa.pos hlt (aa.pos h0 (aa.bind bS (aa.neg (by simp) (aa.pure _))))
 ·intro i h0 hlt
  have hw:wrap64 (i+1)=i+1:=bP om om
  simp only [xC.l0,Pf.f,hw]
  refine ⟨fun hb=>aa.pos hlt (aa.pos h0 (aa.pos hlt (aa.bind (a:=true) (aa.bind hb (aa.pure _)) (aa.pos rfl (aa.pure _))))),fun hb r hr=>?_⟩
  obtain ⟨b,bI,_,_⟩:=hp i h0 hlt
  cases b
  ·exact absurd bI hb
  ·exact aa.pos hlt (aa.pos h0 (aa.pos hlt (aa.bind (a:=false) (aa.bind bI (aa.pure _)) (aa.neg (by simp) hr))))
 ·simp only [xC.l0]
  exact aa.neg om (aa.pure _)
end Go.Proofs.YtapilmimgiaglaaGreatDoor.QX
namespace Go.Proofs.YtapilmimgiaglaaGreatDoor.QX
open Go.RowKit Go.Proofs.bB.eH Go.Proofs.YtapilmimgiaglaaGreatDoor.Ev0
theorem anB (v:Int):(strOfNums [v]).size=1:=rfl
theorem ayL (d:Nat):∀ (a:Int) (x:ByteArray),0≤a→a<10 ^ d→a≤9223372036854775807→(x.size:Int)+d≤1000000000000000000→∃ r,aa (fun k=>lu.l0 k a x) r:=by
 induction d with
 | zero =>
  intro a x h0 h1 ha hx
  obtain rfl:a=0:=by have:(10:Int) ^ 0=1:=rfl;omega
  refine ⟨(⟨#[109]⟩:ByteArray)++x,aa.succ ?_⟩
  simp only [lu.l0]
  exact aa.neg om (aa.pos om (aa.pure _))
 | succ d ih =>
  intro a x h0 h1 ha hx
  by_cases h:a>0
  ·have e:a.tdiv 10=a / 10:=Int.tdiv_eq_ediv_of_nonneg h0
   have hp:(10:Int) ^ (d+1)=10 ^ d * 10:=Int.pow_succ ..
   have hw:wrap64 (a.tdiv 10)=a / 10:=by rw [e];exact bP om om
   obtain ⟨r,hr⟩:=ih (a / 10) (strOfNums [(wrap64 (48+(Int.tmod a 10))) % 256]++x) om om om (by rw [ByteArray.size_append,anB];omega)
   refine ⟨r,aa.succ ?_⟩
   simp only [lu.l0,Option.bind_some,hw,anB]
   exact aa.pos h (aa.pos om hr)
  ·obtain rfl:a=0:=by omega
   refine ⟨(⟨#[109]⟩:ByteArray)++x,aa.succ ?_⟩
   simp only [lu.l0]
   exact aa.neg om (aa.pos om (aa.pure _))
theorem anp (a:Int)(ha:a≤9223372036854775807):∃ r,aa (fun k=>lu.f k a) r:=by
 unfold lu.f
 by_cases h:a≤0
 ·exact ⟨_,aa.pos h (aa.pure _)⟩
 ·obtain ⟨r,hr⟩:=ayL 19 a ⟨#[]⟩ om om ha (by decide)
  exact ⟨r,aa.neg h hr⟩
noncomputable def mt (a:Int):ByteArray:=@dite _ (∃ r,aa (fun k=>lu.f k a) r) (Classical.propDecidable _) (fun h=>Classical.choose h) (fun _=>⟨#[]⟩)
theorem IQ (a:Int)(ha:a≤9223372036854775807):aa (fun k=>lu.f k a) (mt a):=by
 unfold mt
 rw [dif_pos (anp a ha)]
 exact Classical.choose_spec (anp a ha)
theorem lin (c m i:Int):c+m * i+m=c+m * (i+1):=by rw [Int.mul_add,Int.mul_one,Int.add_assoc]
theorem anq {α:Type}(n:Nat)(l:List α)(hl:l.length=n)(m c:Int)(g:Int→α)(F:Nat→List α→Int→Int→Option (Int × List α))
  (step:∀ acc i,0≤i→i<(n:Int)→acc.length=n→∀ r,aa (fun k=>F k (acc.set i.toNat (g (c+m * i))) (c+m * i+m) (i+1)) r→aa (fun k=>F (k+1) acc (c+m * i) i) r)
  (stop:∀ acc s,acc.length=n→aa (fun k=>F (k+1) acc s (n:Int)) (s,acc)) :
  aa (fun k=>F k l c 0) (c+m * n,(List.range n).map fun (j:Nat)=>g (c+m * (j:Int))):=by
 have h:=qR (n:Int) (fun k (s:List α × Int) i=>F k s.1 s.2 i) (fun i=>((List.range i.toNat).map (fun (j:Nat)=>g (c+m * (j:Int)))++l.drop i.toNat,c+m * i)) (fun _=>(c+m * (n:Int),(List.range n).map fun (j:Nat)=>g (c+m * (j:Int)))) ?_ ?_ 0 (Int.le_refl _) om
 ·simpa using h
 ·intro i h0 hlt ih
  have hi:i.toNat<l.length:=by omega
  refine step _ i h0 hlt (by simp;omega) _ ?_
  have e:((List.range i.toNat).map (fun (j:Nat)=>g (c+m * (j:Int)))++l.drop i.toNat).set i.toNat (g (c+m * i))=(List.range (i+1).toNat).map (fun (j:Nat)=>g (c+m * (j:Int)))++l.drop (i+1).toNat:=by
   rw [List.set_append_right _ _ (by simp),List.length_map,List.length_range,Nat.sub_self,List.drop_eq_getElem_cons hi,List.set_cons_zero,show (i+1).toNat=i.toNat+1 by omega]
   rw [List.range_succ,List.map_append,List.append_assoc]
   congr 1
   rw [List.map_singleton,List.singleton_append,show ((i.toNat:Nat):Int)=i by omega]
  rw [e,lin]
  exact ih
 ·refine (stop _ _ (by simp;omega)).same ?_
  have:l.drop n=[]:=by rw [← hl];exact List.drop_length
  simp [this]
theorem atc {α:Type}(n:Nat)(g:Nat→α)(z:α)(i:Int)(h0:0≤i)(h:i<(n:Int)):((List.range n).map g).getD i.toNat z=g i.toNat:=by
 rw [getD_at _ _ _ (by simp;omega)]
 simp
theorem awn (n:Nat)(m c:Int)(F:Nat→Int→Int→Option Int)
  (step:∀ i,0≤i→i<(n:Int)→∀ r,aa (fun k=>F k (c+m * i+m) (i+1)) r→aa (fun k=>F (k+1) (c+m * i) i) r)
  (stop:∀ s,aa (fun k=>F (k+1) s (n:Int)) s):aa (fun k=>F k c 0) (c+m * n):=by
 have h:=qR (n:Int) (fun k (s:Int) i=>F k s i) (fun i=>c+m * i) (fun _=>c+m * (n:Int)) ?_ ?_ 0 (Int.le_refl _) om
 ·simpa using h
 ·intro i h0 hlt ih
  refine step i h0 hlt _ ?_
  rw [lin]
  exact ih
 ·exact stop _
end Go.Proofs.YtapilmimgiaglaaGreatDoor.QX
