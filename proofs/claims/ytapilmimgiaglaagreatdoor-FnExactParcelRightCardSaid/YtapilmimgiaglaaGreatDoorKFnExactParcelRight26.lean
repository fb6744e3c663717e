-- Merged by a program of this session (wip/tool/pack.py) out of its own texts for this claim.
import Derived.Test.YtapilmimgiaglaaGreatDoorKFnExactParcelRight25
set_option linter.unusedSimpArgs false
set_option linter.unusedVariables false
namespace Go.Proofs.YtapilmimgiaglaaGreatDoor.QA
open Go.RowKit Go.Proofs.bB.fA Go.Proofs.YtapilmimgiaglaaGreatDoor.Ev0 Go.Proofs.YtapilmimgiaglaaGreatDoor.Num
def X0 (tag:ByteArray):Prop:=tag=jq∨tag=mF∨tag=xV∨tag=yS∨tag=Ja
def RS (x:bA):Prop:=∃ tag ps,x=sg tag ps∧X0 tag∧ps.length≤10∧∀ t ∈ ps,gd t
theorem ahD {t:ByteArray} (h:gd t):t.size≤40:=by have:=h.1.1;omega
theorem awF {x:bA} (h:RS x):aa (fun k=>iG.f k x.f0 x.f1) true:=by
 obtain ⟨tag,ps,rfl,ht,hl,hg⟩:=h
 obtain ⟨b,hb,h⟩:=XI tag ht ps hl (fun t m=>by have:=ahD (hg t m);omega)
 rwa [h hg] at hb
theorem avL {x:bA} (h:RS x):FV.f x.f0=some false:=by
 obtain ⟨tag,ps,rfl,ht,_,_⟩:=h
 show FV.f tag=some false
 unfold FV.f
 simp only [Lib.toList_data]
 rcases ht with rfl|rfl|rfl|rfl|rfl <;> decide
theorem auR (tag:ByteArray) (h:X0 tag):II.f tag=some true:=by
 unfold II.f
 simp only [akh,Option.bind_some]
 have hb:(tag.size:Int)=3∧(65≤bt tag 0∧bt tag 0≤90)∧(65≤bt tag 1∧bt tag 1≤90)∧(65≤bt tag 2∧bt tag 2≤90):=by
  rcases h with rfl|rfl|rfl|rfl|rfl <;> decide
 rw [fC hb.2.1,fC hb.2.2.1,fC hb.2.2.2,if_pos hb.1,if_pos (by omega),if_pos rfl,if_pos (by omega),if_pos rfl,if_pos (by omega)]
theorem avD (tag:ByteArray) (h:X0 tag) (l:List ByteArray) (hl:(l.length:Int)≤1000) (hn:∀ x ∈ l,tag.toList≠x.toList):aa (fun k=>Jf.f k l tag) false:=by
 unfold Jf.f vF.f
 refine aa.bind (a:=-1) ?_ ((aa.pure _).same rfl)
 refine ru (l.length:Int) (fun k (_:Unit) i=>vF.l0 k l tag (l.length:Int) i) (fun _=>()) (fun _=>-1) ?_ ?_ 0 (Int.le_refl _) (by omega)
 ·intro i h0 hlt ih
  have hw:wrap64 (i+1)=i+1:=dN (by omega) (by omega)
  simp only [vF.l0,hw]
  exact aa.pos hlt (aa.pos h0 (aa.pos hlt (aa.neg (hn _ (FM l i h0 hlt)) ih)))
 ·simp only [vF.l0]
  exact aa.neg (by omega) (aa.pure _)
theorem avK (t:ByteArray) (h:gd t):aa (fun k=>Je.f k [t]) false:=by
 unfold Je.f wN.f
 refine aa.bind (a:=-1) ?_ ((aa.pure _).same rfl)
 apply aa.succ
 simp only [wN.l0]
 have hp:=acQ t (by have:=ahD h;omega)
 rw [fC h.1] at hp
 refine aa.pos (by simp) (aa.pos (by simp) (aa.pos (by simp) (aa.bind (a:=false) ?_ (aa.neg (by simp) ?_))))
 ·unfold Ml.f
  exact aa.bind hp (aa.pure _)
 ·rw [show wrap64 (0+1)=1 from dN (by omega) (by omega)]
  apply aa.succ
  simp only [wN.l0]
  exact aa.neg (by simp) (aa.pure _)
theorem awE {x:bA} (h:RS x):aa (fun k=>rV.f k x.f0 x.f1) true:=by
 obtain ⟨tag,ps,rfl,ht,hl,hg⟩:=h
 have hel:((ps.map jl).length:Int)=(ps.length:Int):=by simp
 unfold rV.f mD.f
 show aa (fun k=>(mD.l0 k (ps.map jl) ((ps.map jl).length:Int) 0 tag (ps.map jl)).bind _) true
 refine aa.bind (a:=true) ?_ (aa.pos rfl ?_)
 ·refine G6 ((ps.map jl).length:Int) (by omega) (fun k i=>mD.l0 k (ps.map jl) ((ps.map jl).length:Int) i tag (ps.map jl)) ?_ ?_
  ·intro i h0 hlt ih
   have hlt':i<(ps.length:Int):=by omega
   have hw:wrap64 (i+1)=i+1:=dN (by omega) (by omega)
   have g:=hg _ (FM ps i h0 hlt')
   simp only [mD.l0,VZ ps i h0 hlt',yX,Option.bind_some]
   refine aa.pos hlt (aa.pos h0 (aa.pos hlt ?_))
   rw [fC (p:=1≤(([aX ByteArray.empty ps i]:List ByteArray).length:Int)∧(([aX ByteArray.empty ps i]:List ByteArray).length:Int)≤4) (by simp)]
   refine aa.pos rfl (aa.bind (avK _ g) ?_)
   apply aa.succ
   simp only [mD.j1,hw]
   have e0:wrap64 ((([aX ByteArray.empty ps i]:List ByteArray).length:Int) - 1)=0:=dN (by simp) (by simp)
   simp only [e0]
   refine aa.neg (by simp) (aa.pos (by omega) (aa.pos (by simp) (aa.neg (fun e=>g.2 e) ih)))
  ·simp only [mD.l0,auR tag ht,Option.bind_some]
   exact aa.neg (by omega) (aa.pos trivial ((aa.pure _).same (decide_eq_true (by omega))))
 ·unfold Mv.f
  simp only [Option.bind_some]
  refine aa.bind (avD tag ht _ (by decide) (fun x m=>?_)) (aa.pure _)
  show tag.toList≠x.toList
  rw [Lib.toList_data,Lib.toList_data]
  revert x
  rcases ht with rfl|rfl|rfl|rfl|rfl <;> decide
theorem aqh (p:PP) (fb:FB p (bO p.kind)):∀ x ∈ kP p,RS x:=fun x hx=>by
 unfold kP at hx
 rcases List.mem_cons.1 hx with rfl|hx
 ·exact ⟨_,_,rfl,.inl rfl,by unfold fH;split <;> simp,Xk fb.doc⟩
 ·rcases List.mem_append.1 hx with hx|hx
  ·obtain ⟨y,hy,rfl⟩:=List.mem_map.1 hx
   exact ⟨_,_,rfl,.inr (.inl rfl),by simp,fun t ht=>by simp at ht;rw [ht];exact ⟨(fb.note _ hy).2,(fb.note _ hy).1⟩⟩
  ·obtain ⟨y,hy,rfl⟩:=List.mem_map.1 hx
   refine ⟨_,_,rfl,?_,by have:=Sy p.kind y;omega,Xk (fb.line _ hy)⟩
   unfold kQ X0
   repeat' split
   all_goals simp
end Go.Proofs.YtapilmimgiaglaaGreatDoor.QA
namespace Go.Proofs.YtapilmimgiaglaaGreatDoor.QA
open Go.RowKit Go.Proofs.bB.fA Go.Proofs.YtapilmimgiaglaaGreatDoor.Ev0 Go.Proofs.YtapilmimgiaglaaGreatDoor.Num
abbrev AP:=gN
abbrev ni:=gP
abbrev OI:=kN
def pp (x:AP):PP:=⟨x.f0,x.f1,x.f2,x.f3,x.f4,x.f5⟩
def RP (x:AP):Prop:=∃ b,aa (fun k=>gH.f k x.f0 x.f1 x.f2 x.f3 x.f4 x.f5) b∧aa (fun k=>fB.f k x.f0 x.f1 x.f2 x.f3 x.f4 x.f5) b∧(1≤x.f0∧x.f0≤7)∧b.length≤40∧∀ s ∈ b,RS s
theorem av1 (x:AP) (hp:vC (pp x)):∃ b,aa (fun k=>jD.f k x.f0 x.f1 x.f2 x.f3 x.f4 x.f5) b∧aa (fun k=>jA.f k x.f0 x.f1 x.f2 x.f3 x.f4 x.f5) b∧(b=true→RP x):=by
 obtain ⟨b,hI,hS,h⟩:=awy (pp x) hp
 refine ⟨b,hI,hS,fun e=>?_⟩
 obtain ⟨hk,hn,hl,e,fb⟩:=h e
 have h1:=agz (pp x) hk hp (by omega) hl
 rw [e] at h1
 refine ⟨kP (pp x),h1,agA (pp x) hp (by omega) hl,hk,?_,aqh _ fb⟩
 have:(kP (pp x)).length=1+(pp x).notes.length+(pp x).lines.length:=Eu (pp x) (bO (pp x).kind)
 omega
def Z0 (m:OI):Prop:=(1≤m.f0∧m.f0≤999999)∧m.f1.length≤40∧∀ s ∈ m.f1,RS s
def nO (n:Nat) (b:ni):Prop:=(1≤b.f0∧b.f0≤7)∧(1≤b.f1∧b.f1≤999999)∧1≤b.f2.length∧b.f2.length≤n∧∀ m ∈ b.f2,Z0 m
theorem nO.up {n m:Nat} {b:ni} (h:nO n b) (e:n≤m):nO m b:=⟨h.1,h.2.1,h.2.2.1,by have:=h.2.2.2.1;omega,h.2.2.2.2⟩
def SG (z:ni) (i:Int) (b:List bA):ni:=⟨z.f0,z.f1,z.f2++[(⟨i+1,b⟩:OI)]⟩
theorem adr (ys:List ni) (z:ni):cu (ys++[z]) (((ys++[z]).length:Int) - 1)=z:=by
 unfold cu
 have e:(((ys++[z]).length:Int) - 1).toNat=ys.length:=by simp
 rw [e,getD_at _ _ _ (by simp)]
 simp
theorem ak7 (ys:List ni) (z w:ni):(ys++[z]).set ((ys++[z]).length - 1) w=ys++[w]:=by simp
theorem l1I (x:AP) (i:Int) (ys:List ni) (z:ni) (h0:0≤i) (hi:i≤1000) (hz:z.f2.length≤1000) (b) (hb:aa (fun k=>gH.f k x.f0 x.f1 x.f2 x.f3 x.f4 x.f5) b):aa (fun k=>iW.l1 k x i (ys++[z])) (ys++[SG z i b]):=by
 unfold iW.l1
 simp only [adr,ak7]
 rw [show wrap64 (i+1)=i+1 from dN (by omega) (by omega)]
 exact aa.pos ⟨by simp,by omega⟩ (aa.bind hb (aa.pure _))
theorem l1S (x:AP) (i:Int) (ys:List ni) (z:ni) (h0:0≤i) (hi:i≤1000) (hz:z.f2.length≤1000) (b) (hb:aa (fun k=>fB.f k x.f0 x.f1 x.f2 x.f3 x.f4 x.f5) b):aa (fun k=>iX.l1 k x i (ys++[z])) (ys++[SG z i b]):=by
 unfold iX.l1
 simp only [adr,ak7]
 rw [show wrap64 (i+1)=i+1 from dN (by omega) (by omega)]
 exact aa.pos ⟨by simp,by omega⟩ (aa.bind hb (aa.pure _))
theorem akU (z:ni) (i:Int) (b) (n:Nat) (h0:0≤i) (hi:i≤1000) (hk:1≤z.f0∧z.f0≤7) (hc:1≤z.f1∧z.f1≤999999) (hn:z.f2.length+1≤n) (hm:∀ m ∈ z.f2,Z0 m) (hl:b.length≤40) (hs:∀ s ∈ b,RS s):nO n (SG z i b):=by
 refine ⟨hk,hc,by simp [SG],by simp [SG];omega,fun m hmm=>?_⟩
 rcases List.mem_append.1 hmm with h|h
 ·exact hm m h
 ·rw [List.mem_singleton.1 h]
  exact ⟨⟨by show 1≤i+1;omega,by show i+1≤999999;omega⟩,hl,hs⟩
theorem agl {P:List AP} {q:AP→Prop} (h:∀ x ∈ P,q x) (i:Int) (h0:0≤i) (hlt:i<(P.length:Int)):q (aG P i):=by
 unfold aG
 rw [getD_at P _ _ (by omega)]
 exact h _ (List.getElem_mem _)
def afp (P:List AP) (i:Int) (l:List ni):Prop:=(i=0∧l=[])∨(0<i∧∃ ys z,l=ys++[z]∧z.f0=(aG P (i - 1)).f0∧(l.length:Int)≤i∧∀ b ∈ l,nO i.toNat b)
theorem auW (P : List AP) (hP : ∀ x ∈ P, RP x) (hn : P.length ≤ 50) (d : Nat) : ∀ (i : Int) (l : List ni), 0 ≤ i → i ≤ (P.length : Int) → (P.length : Int) - i ≤ d → afp P i l →
    ∃ r, aa (fun k => iW.l0 k P i l) r ∧ aa (fun k => iX.l0 k P i l) r ∧ r.length ≤ 50 ∧ ∀ b ∈ r, nO 50 b := by
  have stop : ∀ (i : Int) (l : List ni), 0 ≤ i → i = (P.length : Int) → afp P i l → ∃ r, aa (fun k => iW.l0 k P i l) r ∧ aa (fun k => iX.l0 k P i l) r ∧ r.length ≤ 50 ∧ ∀ b ∈ r, nO 50 b := by
    intro i l h0 e hv
    refine ⟨l, ?_, ?_, ?_, ?_⟩
    · apply aa.succ
      simp only [iW.l0]
      exact aa.neg (by omega) (aa.pure _)
    · apply aa.succ
      simp only [iX.l0]
      exact aa.neg (by omega) (aa.pure _)
    · rcases hv with ⟨_, rfl⟩ | ⟨_, _, _, _, _, h, _⟩
      · simp
      · omega
    · rcases hv with ⟨_, rfl⟩ | ⟨_, _, _, _, _, h, hb⟩
      · simp
      · exact fun b m => (hb b m).up (by omega)
  induction d with
  | zero => exact fun i l h0 h1 hd hv => stop i l h0 (by omega) hv
  | succ d ih =>
    intro i l h0 h1 hd hv
    by_cases hlt : i < (P.length : Int)
    rotate_left
    · exact stop i l h0 (by omega) hv
    have hw : wrap64 (i + 1) = i + 1 := dN (by omega) (by omega)
    obtain ⟨b, bI, bS, hk, hl, hs⟩ := agl hP i h0 hlt
    have ll : (l.length : Int) ≤ i := by
      rcases hv with ⟨e, rfl⟩ | ⟨_, _, _, _, _, h, _⟩
      · simp [e]
      · exact h
    -- a list that both make of this paper
    have go : ∀ ys z, (∀ y ∈ ys, nO (i + 1).toNat y) → (ys.length : Int) ≤ i → nO (i + 1).toNat z → z.f0 = (aG P i).f0 →
        (∀ cI cS : Nat → Option (List ni), aa cI (ys ++ [z]) → aa cS (ys ++ [z]) → ∃ r, aa (fun k => (cI k).bind fun c => iW.l0 k P (i + 1) c) r ∧ aa (fun k => (cS k).bind fun c => iX.l0 k P (i + 1) c) r ∧ r.length ≤ 50 ∧ ∀ b ∈ r, nO 50 b) := by
      intro ys z hy hyl hz ez cI cS hI hS
      obtain ⟨r, r1, r2, r3⟩ := ih (i + 1) (ys ++ [z]) (by omega) (by omega) (by omega) (.inr ⟨by omega, ys, z, rfl, by rw [ez, show i + 1 - 1 = i by omega], by simp; omega, fun b m => by
        rcases List.mem_append.1 m with m | m
        · exact hy b m
        · rw [List.mem_singleton.1 m]; exact hz⟩)
      exact ⟨r, aa.bind hI r1, aa.bind hS r2, r3⟩
    have new : (∀ b ∈ l, nO (i + 1).toNat b) → ∃ c, aa (fun k => iW.l2 k (aG P i) i l) c ∧ aa (fun k => iX.l2 k (aG P i) i l) c ∧ ∃ ys z, c = ys ++ [z] ∧ (∀ y ∈ ys, nO (i + 1).toNat y) ∧ (ys.length : Int) ≤ i ∧ nO (i + 1).toNat z ∧ z.f0 = (aG P i).f0 := by
      intro hb
      have e : wrap64 ((l.length : Int) + 1) = (l.length : Int) + 1 := dN (by omega) (by omega)
      refine ⟨_, l1I _ i l ⟨(aG P i).f0, wrap64 ((l.length : Int) + 1), []⟩ h0 (by omega) (by simp) b bI, l1S _ i l ⟨(aG P i).f0, wrap64 ((l.length : Int) + 1), []⟩ h0 (by omega) (by simp) b bS, l, _, rfl, hb, ll, ?_, rfl⟩
      rw [e]
      exact akU _ i b _ h0 (by omega) hk ⟨by show (1 : Int) ≤ (l.length : Int) + 1; omega, by show (l.length : Int) + 1 ≤ 999999; omega⟩ (by simp; omega) (by simp) hl hs
    have fin : ∀ (F G : Nat → Option (List ni)) c, aa F c → aa G c → (∃ ys z, c = ys ++ [z] ∧ (∀ y ∈ ys, nO (i + 1).toNat y) ∧ (ys.length : Int) ≤ i ∧ nO (i + 1).toNat z ∧ z.f0 = (aG P i).f0) →
        ∃ r, aa (fun k => (F k).bind fun c => iW.l0 k P (i + 1) c) r ∧ aa (fun k => (G k).bind fun c => iX.l0 k P (i + 1) c) r ∧ r.length ≤ 50 ∧ ∀ b ∈ r, nO 50 b := by
      rintro F G c hF hG ⟨ys, z, rfl, a1, a2, a3, a4⟩
      exact go ys z a1 a2 a3 a4 F G hF hG
    suffices key : ∃ c, aa (fun k => if i = 0 then iW.l2 k (aG P i) i l else if 0 ≤ wrap64 (i - 1) then (if wrap64 (i - 1) < (P.length : Int) then (if (aG P i).f0 = (aG P (wrap64 (i - 1))).f0 then iW.l1 k (aG P i) i l else iW.l2 k (aG P i) i l) else none) else none) c ∧
        aa (fun k => if (l.length : Int) = 0 then iX.l2 k (aG P i) i l else if (cu l ((l.length : Int) - 1)).f0 = (aG P i).f0 then iX.l1 k (aG P i) i l else iX.l2 k (aG P i) i l) c ∧
        ∃ ys z, c = ys ++ [z] ∧ (∀ y ∈ ys, nO (i + 1).toNat y) ∧ (ys.length : Int) ≤ i ∧ nO (i + 1).toNat z ∧ z.f0 = (aG P i).f0 by
      obtain ⟨c, c1, c2, c3⟩ := key
      obtain ⟨r, r1, r2, r3⟩ := fin _ _ c c1 c2 c3
      refine ⟨r, ?_, ?_, r3⟩
      · apply aa.succ
        simp only [iW.l0, hw]
        exact aa.pos hlt (aa.pos h0 (aa.pos (by omega) r1))
      · apply aa.succ
        simp only [iX.l0, hw]
        exact aa.pos hlt (aa.pos h0 (aa.pos (by omega) r2))
    rcases hv with ⟨rfl, rfl⟩ | ⟨hi, ys, z, rfl, ez, _, hb⟩
    · obtain ⟨c, c1, c2, c3⟩ := new (by simp)
      exact ⟨c, aa.pos rfl c1, aa.pos rfl c2, c3⟩
    · have hw1 : wrap64 (i - 1) = i - 1 := dN (by omega) (by omega)
      simp only [hw1, adr]
      have hbu : ∀ b ∈ ys ++ [z], nO (i + 1).toNat b := fun b m => (hb b m).up (by omega)
      by_cases e : (aG P i).f0 = (aG P (i - 1)).f0
      · have hz := hb z (by simp)
        have hz2 : z.f2.length ≤ 1000 := by have := hz.2.2.2.1; omega
        exact ⟨_, aa.neg (by omega) (aa.pos (by omega) (aa.pos (by omega) (aa.pos e (l1I _ i ys z h0 (by omega) hz2 b bI)))), aa.neg (by simp; omega) (aa.pos (ez.trans e.symm) (l1S _ i ys z h0 (by omega) hz2 b bS)), ys, _, rfl, fun y m => hbu y (by simp [m]), by simp at ll; omega,
          akU z i b _ h0 (by omega) hz.1 hz.2.1 (by have := hz.2.2.2.1; omega) hz.2.2.2.2 hl hs, ez.trans e.symm⟩
      · obtain ⟨c, c1, c2, c3⟩ := new hbu
        exact ⟨c, aa.neg (by omega) (aa.pos (by omega) (aa.pos (by omega) (aa.neg e c1))), aa.neg (by simp; omega) (aa.neg (fun x => e (x.symm.trans ez)) c2), c3⟩
end Go.Proofs.YtapilmimgiaglaaGreatDoor.QA
namespace Go.Proofs.YtapilmimgiaglaaGreatDoor.QA
open Go.RowKit Go.Proofs.bB.fA Go.Proofs.YtapilmimgiaglaaGreatDoor.Ev0 Go.Proofs.YtapilmimgiaglaaGreatDoor.Num
theorem acR (n:Int):zX.f n=some (B (1≤n∧n≤999999)):=by
 unfold zX.f
 rw [yX]
 rfl
theorem acV (n:Int):Ad.f n=some (B (1≤n∧n≤999999)):=by
 unfold Ad.f
 by_cases h:n≥1
 ·rw [if_pos h,AZ]
  exact congrArg some (jB ⟨fun x=>⟨h,x⟩,fun x=>x.2⟩)
 ·rw [if_neg h,fK (fun x=>h x.1)]
theorem agk {l:List OI} {q:OI→Prop} (h:∀ x ∈ l,q x) (i:Int) (h0:0≤i) (hlt:i<(l.length:Int)):q (lg l i):=by
 unfold lg
 rw [getD_at l _ _ (by omega)]
 exact h _ (List.getElem_mem _)
theorem agj {l:List ni} {q:ni→Prop} (h:∀ x ∈ l,q x) (i:Int) (h0:0≤i) (hlt:i<(l.length:Int)):q (cu l i):=by
 unfold cu
 rw [getD_at l _ _ (by omega)]
 exact h _ (List.getElem_mem _)
theorem agm {l:List bA} {q:bA→Prop} (h:∀ x ∈ l,q x) (i:Int) (h0:0≤i) (hlt:i<(l.length:Int)):q (av l i):=by
 unfold av
 rw [getD_at l _ _ (by omega)]
 exact h _ (List.getElem_mem _)
theorem avA {m:OI} (h:Z0 m):aa (fun k=>IM.f k m.f0 m.f1) true:=by
 obtain ⟨hc,hl,hs⟩:=h
 unfold IM.f Mm.f vv.f
 simp only [acR,fC hc,Option.bind_some]
 refine aa.pos trivial (aa.pos (by omega) (aa.bind (a:=false) (aa.bind (a:=-1) ?_ ((aa.pure _).same rfl)) (aa.pure _)))
 refine ru (m.f1.length:Int) (fun k (_:Unit) i=>vv.l0 k m.f1 (m.f1.length:Int) i) (fun _=>()) (fun _=>-1) ?_ ?_ 0 (Int.le_refl _) (by omega)
 ·intro i h0 hlt ih
  have hw:wrap64 (i+1)=i+1:=dN (by omega) (by omega)
  simp only [vv.l0,Mt.f,hw]
  exact aa.pos hlt (aa.pos h0 (aa.pos hlt (aa.bind (a:=false) (aa.bind (awE (agm hs i h0 hlt)) (aa.pure _)) (aa.neg (by simp) ih))))
 ·simp only [vv.l0]
  exact aa.neg (by omega) (aa.pure _)
theorem aqp {b:ni} (h:nO 50 b):aa (fun k=>IG.f k b.f0 b.f1 b.f2) (B ((b.f2.length:Int)≤10)):=by
 obtain ⟨hk,hc,h1,hn,hm⟩:=h
 unfold IG.f Mh.f u7.f
 simp only [acR,yX,fC hc,fC hk,Option.bind_some]
 refine aa.pos trivial (aa.pos trivial ?_)
 by_cases c:(b.f2.length:Int)≤10
 rotate_left
 ·rw [fK c,fK (fun x=>c x.2)]
  exact aa.neg (by simp) (aa.pure _)
 rw [fC c,fC (p:=1≤(b.f2.length:Int)∧(b.f2.length:Int)≤10) ⟨by omega,c⟩]
 refine aa.pos rfl (aa.bind (a:=false) (aa.bind (a:=-1) ?_ ((aa.pure _).same rfl)) (aa.pure _))
 refine ru (b.f2.length:Int) (fun k (_:Unit) i=>u7.l0 k b.f2 (b.f2.length:Int) i) (fun _=>()) (fun _=>-1) ?_ ?_ 0 (Int.le_refl _) (by omega)
 ·intro i h0 hlt ih
  have hw:wrap64 (i+1)=i+1:=dN (by omega) (by omega)
  simp only [u7.l0,Mo.f,hw]
  exact aa.pos hlt (aa.pos h0 (aa.pos hlt (aa.bind (a:=false) (aa.bind (avA (agk hm i h0 hlt)) (aa.pure _)) (aa.neg (by simp) ih))))
 ·simp only [u7.l0]
  exact aa.neg (by omega) (aa.pure _)
def PK (l:List ni):Prop:=∀ i:Int,0≤i→i<(l.length:Int)→((cu l i).f2.length:Int)≤10
theorem aqr (l:List ni) (hl:l.length≤50) (h:∀ b ∈ l,nO 50 b):aa (fun k=>(IC.f k l).bind fun t=>some (!t)) (B (PK l)):=by
 unfold IC.f uZ.f
 have key:=V8 (l.length:Int) (by omega) (fun i=>¬ ((cu l i).f2.length:Int)≤10) (fun k i=>uZ.l0 k l (l.length:Int) i) ?_ ?_
 ·obtain ⟨r,hr,hc⟩:=key
  refine aa.bind (aa.bind hr (aa.pure _)) ((aa.pure _).same ?_)
  rcases hc with ⟨rfl,hc⟩ | ⟨h0,hlt,hc,_⟩
  ·rw [fC (p:=PK l) (fun i a b=>Classical.byContradiction (hc i a b))]
   rfl
  ·rw [fK (p:=PK l) (fun x=>hc (x r h0 hlt)),decide_eq_true h0]
   rfl
 ·intro i h0 hlt
  have hw:wrap64 (i+1)=i+1:=dN (by omega) (by omega)
  have hb:=aqp (agj h i h0 hlt)
  simp only [uZ.l0,Mg.f,hw]
  refine ⟨fun hp=>?_,fun hp r hr=>?_⟩
  ·rw [fK hp] at hb
   exact aa.pos hlt (aa.pos h0 (aa.pos hlt (aa.bind (a:=true) (aa.bind hb (aa.pure _)) (aa.pos rfl (aa.pure _)))))
  ·rw [fC (Classical.not_not.1 hp)] at hb
   exact aa.pos hlt (aa.pos h0 (aa.pos hlt (aa.bind (a:=false) (aa.bind hb (aa.pure _)) (aa.neg (by simp) hr))))
 ·simp only [uZ.l0]
  exact aa.neg (by omega) (aa.pure _)
theorem aqs (s q:ByteArray) (n:Int) (l:List ni) (hl:l.length≤50) (h:∀ b ∈ l,nO 50 b):aa (fun k=>eP.l0 k 0 s q n l) (B (PK l)):=by
 refine (FP (l.length:Int) (by omega) (fun i=>((cu l i).f2.length:Int)≤10) True (fun k i=>eP.l0 k i s q n l) ?_ ?_).same (jB ⟨fun x=>x.1,fun x=>⟨x,trivial⟩⟩)
 ·intro i h0 hlt
  have hw:wrap64 (i+1)=i+1:=dN (by omega) (by omega)
  have hb:=agj h i h0 hlt
  generalize hz:cu l i=z at hb
  obtain ⟨hk,hc,h1,hn,hm⟩:=hb
  simp only [eP.l0,hz,acV,fC hc,Option.bind_some]
  have J:∀ r,aa (fun k=>eP.j2 k i (decide ((z.f2.length:Int)>10)) s q n l z.f0 z.f1 z.f2) r→aa (fun k=>if i<(l.length:Int) then (if 0≤i then (if z.f0<1 then eP.j2 k i true s q n l z.f0 z.f1 z.f2 else (if z.f0>7 then eP.j2 k i true s q n l z.f0 z.f1 z.f2 else (if True then (if (z.f2.length:Int)<1 then eP.j2 k i true s q n l z.f0 z.f1 z.f2 else eP.j2 k i (decide ((z.f2.length:Int)>10)) s q n l z.f0 z.f1 z.f2) else eP.j2 k i true s q n l z.f0 z.f1 z.f2))) else none) else some true) r:=fun r hr=>aa.pos hlt (aa.pos h0 (aa.neg (by omega) (aa.neg (by omega) (aa.pos trivial (aa.neg (by omega) hr)))))
  refine ⟨fun hq r hr=>J r ?_,fun hq=>J _ ?_⟩
  ·rw [decide_eq_false (by omega)]
   apply aa.succ
   simp only [eP.j2]
   refine aa.neg (by simp) ?_
   refine ru (z.f2.length:Int) (fun k (_:Unit) j=>eP.l1 k i j s q n l z.f0 z.f1 z.f2) (fun _=>()) (fun _=>r) ?_ ?_ 0 (Int.le_refl _) (by omega)
   ·intro j j0 jlt ih
    have hw2:wrap64 (j+1)=j+1:=dN (by omega) (by omega)
    have hmj:=agk hm j j0 jlt
    generalize hy:lg z.f2 j=y at hmj
    obtain ⟨mc,ml,ms⟩:=hmj
    simp only [eP.l1,hy,acV,fC mc,Option.bind_some]
    refine aa.pos jlt (aa.pos j0 (aa.pos trivial ?_))
    rw [decide_eq_false (by omega)]
    apply aa.succ
    simp only [eP.j4]
    refine aa.neg (by simp) ?_
    refine ru (y.f1.length:Int) (fun k (_:Unit) e=>eP.l2 k i j e s q n l z.f0 z.f1 z.f2 y.f0 y.f1) (fun _=>()) (fun _=>r) ?_ ?_ 0 (Int.le_refl _) (by omega)
    ·intro e e0 elt ih2
     have hw3:wrap64 (e+1)=e+1:=dN (by omega) (by omega)
     have hx:=agm ms e e0 elt
     simp only [eP.l2,avL hx,Option.bind_some,hw3]
     exact aa.pos elt (aa.pos e0 (aa.bind (awF hx) (aa.pos rfl (aa.neg (by simp) ih2))))
    ·simp only [eP.l2,hw2]
     exact aa.neg (by omega) ih
   ·simp only [eP.l1,hw]
    exact aa.neg (by omega) hr
  ·rw [decide_eq_true (by omega)]
   apply aa.succ
   simp only [eP.j2]
   exact aa.pos trivial (aa.pure _)
 ·simp only [eP.l0]
  exact aa.neg (by omega) ((aa.pure _).same (fC trivial).symm)
theorem auV (s q:ByteArray) (n:Int) (l:List ni) (hs:s.size≤1048576) (hq:q.size≤1048576) (hl:l.length≤50) (h:∀ b ∈ l,nO 50 b):∃ b,aa (fun k=>IE.f k s q n l) b∧aa (fun k=>eP.f k s q n l) b:=by
 unfold IE.f eP.f
 simp only [acR,acV,yX,Option.bind_some]
 have iI:=Xd s (by omega)
 have iS:=adx s (by omega)
 have qI:=Xd q (by omega)
 have qS:=adx q (by omega)
 have T:aa (fun k=>eP.j0 k true s q n l) false:=by
  apply aa.succ
  simp only [eP.j0]
  exact aa.pos trivial (aa.pure _)
 generalize MI s=b1 at iI iS
 generalize MI q=b2 at qI qS
 cases b1
 ·exact ⟨false,aa.bind iI (aa.neg (by simp) (aa.pure _)),aa.bind iS (aa.neg (by simp) T)⟩
 cases b2
 ·exact ⟨false,aa.bind iI (aa.pos rfl (aa.bind qI (aa.neg (by simp) (aa.pure _)))),aa.bind iS (aa.pos rfl (aa.bind qS (aa.neg (by simp) T)))⟩
 by_cases c:1≤n∧n≤999999
 rotate_left
 ·rw [fK c]
  exact ⟨false,aa.bind iI (aa.pos rfl (aa.bind qI (aa.pos rfl (aa.neg (by simp) (aa.pure _))))),aa.bind iS (aa.pos rfl (aa.bind qS (aa.pos rfl (aa.neg (by simp) T))))⟩
 rw [fC c]
 by_cases e:1≤(l.length:Int)∧(l.length:Int)≤5
 rotate_left
 ·rw [fK e]
  refine ⟨false,aa.bind iI (aa.pos rfl (aa.bind qI (aa.pos rfl (aa.pos rfl (aa.neg (by simp) (aa.pure _)))))),aa.bind iS (aa.pos rfl (aa.bind qS (aa.pos rfl (aa.pos rfl (aa.ite (fun _=>T) (fun g=>?_))))))⟩
  rw [decide_eq_true (by omega)]
  exact T
 rw [fC e]
 refine ⟨B (PK l),aa.bind iI (aa.pos rfl (aa.bind qI (aa.pos rfl (aa.pos rfl (aa.pos rfl (aqr l hl h)))))),aa.bind iS (aa.pos rfl (aa.bind qS (aa.pos rfl (aa.pos rfl (aa.neg (by omega) ?_)))))⟩
 rw [decide_eq_false (by omega)]
 apply aa.succ
 simp only [eP.j0]
 exact aa.neg (by simp) (aqs s q n l hl h)
theorem av2 (s q:ByteArray) (n:Int) (P:List AP) (hs:s.size≤1048576) (hq:q.size≤1048576) (hl:P.length≤1048576) (h:∀ x ∈ P,vC (pp x)):∃ b,aa (fun k=>ut.f k s q n P) b∧aa (fun k=>qH.f k s q n P) b∧(b=true→∃ l,aa (fun k=>iW.l0 k P 0 []) l∧aa (fun k=>iX.l0 k P 0 []) l∧l.length≤50∧∀ b ∈ l,nO 50 b):=by
 unfold ut.f qH.f Mi.f vk.f
 have T:aa (fun k=>ut.j0 k true s q n P) false:=by
  apply aa.succ
  simp only [ut.j0]
  exact aa.pos trivial (aa.pure _)
 by_cases c:(P.length:Int)>50
 ·exact ⟨false,aa.pos c T,aa.pos c (aa.pure _),fun e=>by cases e⟩
 have hp:∀ i:Int,0≤i→i<(P.length:Int)→_:=fun i h0 hlt=>av1 _ (agl h i h0 hlt)
 let bad:Int→Prop:=fun i=>aa (fun k=>jD.f k (aG P i).f0 (aG P i).f1 (aG P i).f2 (aG P i).f3 (aG P i).f4 (aG P i).f5) false
 have key:=V8 (P.length:Int) (by omega) bad (fun k i=>vk.l0 k P (P.length:Int) i) ?_ ?_
 ·obtain ⟨r,hr,hc⟩:=key
  have good:∀ i:Int,0≤i→i<(P.length:Int)→¬ bad i→RP (aG P i)∧aa (fun k=>jA.f k (aG P i).f0 (aG P i).f1 (aG P i).f2 (aG P i).f3 (aG P i).f4 (aG P i).f5) true:=fun i h0 hlt hb=>by
   obtain ⟨b,bI,bS,hR⟩:=hp i h0 hlt
   cases b
   ·exact absurd bI hb
   ·exact ⟨hR rfl,bS⟩
  have step:∀ i:Int,0≤i→i<(P.length:Int)→¬ bad i→∀ b,aa (fun k=>qH.l0 k (i+1) s q n P) b→aa (fun k=>qH.l0 (k+1) i s q n P) b:=fun i h0 hlt hb b hb'=>by
   have hw:wrap64 (i+1)=i+1:=dN (by omega) (by omega)
   simp only [qH.l0,hw]
   exact aa.pos hlt (aa.pos h0 (aa.bind (good i h0 hlt hb).2 (aa.pos rfl hb')))
  rcases hc with ⟨rfl,hc⟩ | ⟨h0,hlt,hbad,hc⟩
  ·have hRP:∀ x ∈ P,RP x:=Vg P z45 RP (fun i h0 hlt=>(good i h0 hlt (hc i h0 hlt)).1)
   obtain ⟨l,l1,l2,l3,l4⟩:=auW P hRP (by omega) P.length 0 [] (Int.le_refl _) (by omega) (by omega) (.inl ⟨rfl,rfl⟩)
   obtain ⟨b,bI,bS⟩:=auV s q n l hs hq l3 l4
   refine ⟨b,aa.neg c (aa.bind (aa.bind hr (aa.pure _)) ?_),aa.neg c ?_,fun _=>⟨l,l1,l2,l3,l4⟩⟩
   ·rw [show decide ((-1:Int)≥0)=false from rfl]
    apply aa.succ
    simp only [ut.j0,iW.f]
    exact aa.neg (by simp) (aa.bind (aa.bind l1 (aa.pure _)) (aa.bind bI (aa.pure _)))
   ·refine ru (P.length:Int) (fun k (_:Unit) i=>qH.l0 k i s q n P) (fun _=>()) (fun _=>b) (fun i h0 hlt ih=>step i h0 hlt (hc i h0 hlt) b ih) ?_ 0 (Int.le_refl _) (by omega)
    simp only [qH.l0,iX.f]
    exact aa.neg (by omega) (aa.bind (aa.bind l2 (aa.pure _)) (aa.bind bS (aa.pure _)))
  ·refine ⟨false,aa.neg c (aa.bind (aa.bind hr (aa.pure _)) ?_),aa.neg c ?_,fun e=>by cases e⟩
   ·rw [decide_eq_true h0]
    exact T
   ·refine ru r (fun k (_:Unit) i=>qH.l0 k i s q n P) (fun _=>()) (fun _=>false) (fun i h0 hlt' ih=>step i h0 (by omega) (hc i h0 hlt') false ih) ?_ 0 (Int.le_refl _) h0
    obtain ⟨b,bI,bS,_⟩:=hp r h0 hlt
    have:=PI bI hbad
    subst this
    simp only [qH.l0]
    exact aa.pos hlt (aa.pos h0 (aa.bind bS (aa.neg (by simp) (aa.pure _))))
 ·intro i h0 hlt
  have hw:wrap64 (i+1)=i+1:=dN (by omega) (by omega)
  simp only [vk.l0,Mj.f,hw]
  refine ⟨fun hb=>aa.pos hlt (aa.pos h0 (aa.pos hlt (aa.bind (a:=true) (aa.bind hb (aa.pure _)) (aa.pos rfl (aa.pure _))))),fun hb r hr=>?_⟩
  obtain ⟨b,bI,_,_⟩:=hp i h0 hlt
  cases b
  ·exact absurd bI hb
  ·exact aa.pos hlt (aa.pos h0 (aa.pos hlt (aa.bind (a:=false) (aa.bind bI (aa.pure _)) (aa.neg (by simp) hr))))
 ·simp only [vk.l0]
  exact aa.neg (by omega) (aa.pure _)
end Go.Proofs.YtapilmimgiaglaaGreatDoor.QA
namespace Go.Proofs.YtapilmimgiaglaaGreatDoor.Pure
open Go.RowKit Go.Proofs.YtapilmimgiaglaaGreatDoor.QA Go.Proofs.bB.fA Go.Proofs.YtapilmimgiaglaaGreatDoor.Ev0
theorem FnExactParcelRight:FD.Pure:=by
 intro s q n l w0 w1 w2 w3
 apply aa.ex
 unfold FD.f
 have a0:s.size≤2 ^ 63 - 1:=w0
 have a1:q.size≤2 ^ 63 - 1:=w1
 have a3:l.length≤2 ^ 63 - 1:=w3.1
 obtain ⟨t,ht,h⟩:=awP s q n l (by omega) (by omega) (by omega) w3.2
 refine aa.bind ht (aa.ite (fun _=>aa.pure true) (fun t0=>?_))
 obtain ⟨_,_,hs,hq,hl,hx⟩:=h.resolve_left t0
 have hto:aa (fun k=>yM.f k s q n l) (s,q,n,l.map xI):=by
  unfold yM.f
  exact aa.bind (ayT l hl hx) (aa.pure _)
 have heq:aa (fun k=>FH.f k s q n (l.map xI) s q n (l.map xI)) true:=by
  unfold FH.f
  exact aa.pos rfl (aa.pos rfl (aa.pos rfl (aa.bind (ast l hl hx) (aa.pos rfl (aa.pure _)))))
 obtain ⟨r,r1,r2,_⟩:=av2 s q n (l.map xI) hs hq (by simp;omega) (fun x m=>by
  obtain ⟨y,hy,rfl⟩:=List.mem_map.1 m
  exact (hx y hy).2.2)
 exact aa.bind hto (aa.bind r2 (aa.bind hto (aa.bind r1 (aa.neg (by simp) (aa.bind hto (aa.bind heq (aa.pos rfl (aa.pure true))))))))
end Go.Proofs.YtapilmimgiaglaaGreatDoor.Pure
