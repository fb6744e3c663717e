-- Merged by a program of this session (wip/tool/pack.py) out of its own texts for this claim.
import Derived.Test.YtapilmimgiaglaaGreatDoorKFnExactParcelRight24
set_option linter.unusedSimpArgs false
set_option linter.unusedVariables false
namespace Go.Proofs.YtapilmimgiaglaaGreatDoor.QA
open Go.RowKit Go.Proofs.bB.fA Go.Proofs.YtapilmimgiaglaaGreatDoor.Ev0 Go.Proofs.YtapilmimgiaglaaGreatDoor.Num
theorem asv (l:List ByteArray) (hl:l.length≤1000000):aa (fun k=>uF.f k l l) true:=by
 unfold uF.f
 refine aa.pos rfl (G6 (l.length:Int) (by omega) (fun k i=>uF.l0 k l l (l.length:Int) i) ?_ ?_)
 ·intro i h0 hlt ih
  have hw:wrap64 (i+1)=i+1:=dN (by omega) (by omega)
  simp only [uF.l0,hw,if_true]
  exact aa.pos hlt (aa.pos h0 (aa.pos hlt (aa.pos hlt ih)))
 ·simp only [uF.l0]
  exact aa.neg (by omega) (aa.pure _)
theorem avy (a b:LN):a=b ↔ a.f0=b.f0∧a.f1=b.f1∧a.f2=b.f2∧a.f3=b.f3∧a.f4=b.f4:=by
 cases a;cases b;simp
theorem Xm (a b:LN):(!(a.f0 == b.f0) || (!(a.f1.toList == b.f1.toList) || (!(a.f2 == b.f2) || (!(a.f3 == b.f3) || !(a.f4.toList == b.f4.toList)))))=true ↔ ¬ a=b:=by
 rw [avy]
 simp only [Bool.or_eq_true,Bool.not_eq_true',beq_eq_false_iff_ne,ne_eq,Hg]
 constructor
 ·rintro (h|h|h|h|h) <;> (intro g;exact h (by first|exact g.1|exact g.2.1|exact g.2.2.1|exact g.2.2.2.1|exact g.2.2.2.2))
 ·intro h
  by_cases c0:a.f0=b.f0
  ·by_cases c1:a.f1=b.f1
   ·by_cases c2:a.f2=b.f2
    ·by_cases c3:a.f3=b.f3
     ·by_cases c4:a.f4=b.f4
      ·exact absurd ⟨c0,c1,c2,c3,c4⟩ h
      ·exact .inr (.inr (.inr (.inr c4)))
     ·exact .inr (.inr (.inr (.inl c3)))
    ·exact .inr (.inr (.inl c2))
   ·exact .inr (.inl c1)
  ·exact .inl c0
theorem FN (l:List LN) (i:Nat) (h:i<l.length):ai l (i:Int)=l[i]:=by
 unfold ai
 rw [Int.toNat_natCast,getD_at l _ _ h]
def I4 (p:PP):Prop:=qX p=p.oth∧∀ l ∈ p.lines,fM p.kind l=l
theorem Vh (p:PP) (q:LN→Prop):(∀ i:Int,0≤i→i<(p.lines.length:Int)→q (ai p.lines i)) ↔ ∀ l ∈ p.lines,q l:=by
 constructor
 ·intro h l hl
  obtain ⟨i,hi,rfl⟩:=List.mem_iff_getElem.1 hl
  have:=h (i:Int) (by omega) (by omega)
  rwa [FN _ _ hi] at this
 ·intro h i h0 hlt
  obtain ⟨m,rfl⟩:∃ m:Nat,i=(m:Int):=⟨i.toNat,by omega⟩
  rw [FN _ _ (by omega)]
  exact h _ (List.getElem_mem _)
theorem akW (p:PP) (i:Int) (h0:0≤i) (h:i<(p.lines.length:Int)):ai (p.lines.map (fM p.kind)) i=fM p.kind (ai p.lines i):=by
 obtain ⟨m,rfl⟩:∃ m:Nat,i=(m:Int):=⟨i.toNat,by omega⟩
 rw [FN _ _ (by simp;omega),FN _ _ (by omega),List.getElem_map]
theorem awz (p:PP) (n2:p.notes.length≤1000) (Sw:p.lines.length≤1000):aa (fun k=>Fx.f k p.kind p.ref (qX p) p.day p.notes (p.lines.map (fM p.kind)) p.kind p.ref p.oth p.day p.notes p.lines) (B (I4 p)):=by
 unfold Fx.f
 refine aa.pos rfl (aa.pos rfl ?_)
 by_cases c:qX p=p.oth
 ·refine aa.pos (by rw [c]) (aa.pos rfl (aa.bind (asv _ (by omega)) (aa.pos rfl ?_)))
  have key:aa (fun k=>uq.f k (p.lines.map (fM p.kind)) p.lines) (B (I4 p)):=by
   unfold uq.f
   refine aa.pos (by simp) ?_
   have:=FP ((p.lines.map (fM p.kind)).length:Int) (by omega) (fun i=>fM p.kind (ai p.lines i)=ai p.lines i) True (fun k i=>uq.l0 k (p.lines.map (fM p.kind)) p.lines ((p.lines.map (fM p.kind)).length:Int) i) ?_ ?_
   ·refine this.same (jB ?_)
    rw [List.length_map]
    constructor
    ·intro h
     exact ⟨c,(Vh p (fun l=>fM p.kind l=l)).1 h.1⟩
    ·intro h
     exact ⟨(Vh p (fun l=>fM p.kind l=l)).2 h.2,trivial⟩
   ·intro i h0 hlt
    have hlt':i<(p.lines.length:Int):=by rwa [List.length_map] at hlt
    have hw:wrap64 (i+1)=i+1:=dN (by omega) (by omega)
    simp only [uq.l0,hw,akW p i h0 hlt']
    refine ⟨fun hk r hr=>aa.pos hlt (aa.pos h0 (aa.pos hlt (aa.pos hlt' (aa.neg (fun x=>(Xm _ _).1 x hk) hr)))),fun hk=>aa.pos hlt (aa.pos h0 (aa.pos hlt (aa.pos hlt' (aa.pos ((Xm _ _).2 hk) (aa.pure _)))))⟩
   ·simp only [uq.l0]
    exact aa.neg (by omega) ((aa.pure _).same (fC trivial).symm)
  exact aa.bind key (aa.pure _)
 ·refine aa.neg (fun h=>c (Hg.1 h)) ((aa.pure _).same (fK (fun h=>c h.1)).symm)
def yo (k:Int):Prop:=1≤k∧k≤4
def xU (k:Int):Prop:=k=1∨k=5∨k=6
def KV (k:Int) (ls:List LN) (i:Int):Prop :=
 (yo k∧(¬ (1≤(ai ls i).f0∧(ai ls i).f0≤999)∨(0<i∧(ai ls i).f0≤(ai ls (i - 1)).f0))) ∨
 (xU k∧∃ j:Int,0≤j∧j<i∧(ai ls j).f1=(ai ls i).f1)
theorem arw (k:Int):Bp.f k=some (B (yo k)):=by
 unfold Bp.f
 rw [yX]
 rfl
theorem akG (k:Int):IP.f k=some (B (xU k)):=by
 unfold IP.f xU
 by_cases h1:k=1
 ·rw [if_pos h1,fC (.inl h1)]
 ·rw [if_neg h1]
  by_cases h5:k=5
  ·rw [if_pos h5,fC (.inr (.inl h5))]
  ·rw [if_neg h5]
   exact congrArg some (Hd (by rw [beq_iff_eq];omega))
theorem take_at (ls:List LN) (n:Nat) (j:Int) (h0:0≤j) (h:j<(n:Int)) (hn:n≤ls.length):ai (ls.take n) j=ai ls j:=by
 obtain ⟨m,rfl⟩:∃ m:Nat,j=(m:Int):=⟨j.toNat,by omega⟩
 rw [FN _ _ (by simp;omega),FN _ _ (by omega),List.getElem_take]
theorem ahx {ρ:Type} (n:Int) (hn:0≤n) (p:Int→Prop) (g:Int→ρ) (F:Nat→Int→Option ρ)
  (step:∀ i,0≤i→i<n→(p i→aa (fun k=>F (k+1) i) (g i))∧(¬ p i→∀ r,aa (fun k=>F k (i+1)) r→aa (fun k=>F (k+1) i) r))
  (stop:aa (fun k=>F (k+1) n) (g (-1))) :
  ∃ r,aa (fun k=>F k 0) (g r)∧((r = -1∧∀ j,0≤j→j<n→¬ p j)∨(0≤r∧r<n∧p r)):=by
 have key:∀ (d:Nat) (i:Int),0≤i→i≤n→n - i≤d→∃ r,aa (fun k=>F k i) (g r)∧((r = -1∧∀ j,i≤j→j<n→¬ p j)∨(0≤r∧r<n∧p r)):=by
  intro d
  induction d with
  | zero =>
   intro i h0 h1 hd
   obtain rfl:i=n:=by omega
   exact ⟨-1,stop.succ,.inl ⟨rfl,fun j h1 h2=>absurd h2 (by omega)⟩⟩
  | succ d ih =>
   intro i h0 h1 hd
   by_cases hlt:i<n
   ·by_cases hp:p i
    ·exact ⟨i,((step i h0 hlt).1 hp).succ,.inr ⟨h0,hlt,hp⟩⟩
    ·obtain ⟨r,hr,h⟩:=ih (i+1) (by omega) (by omega) (by omega)
     refine ⟨r,((step i h0 hlt).2 hp _ hr).succ,?_⟩
     rcases h with ⟨h1,h2⟩|h
     ·refine .inl ⟨h1,fun j g1 g2=>?_⟩
      by_cases e:j=i
      ·rw [e];exact hp
      ·exact h2 j (by omega) g2
     ·exact .inr h
   ·obtain rfl:i=n:=by omega
    exact ⟨-1,stop.succ,.inl ⟨rfl,fun j h1 h2=>absurd h2 (by omega)⟩⟩
 exact key n.toNat 0 (Int.le_refl _) hn (by omega)
theorem avU (ls:List LN) (hl:ls.length≤1000) (i:Int) (h0:0≤i) (h:i<(ls.length:Int)) (x:LN) :
  aa (fun k=>Fw.f k (ls.take i.toNat) x.f0 x.f1 x.f2 x.f3 x.f4) (B (∃ j:Int,0≤j∧j<i∧(ai ls j).f1=x.f1),x.f0,x.f1,x.f2,x.f3,x.f4):=by
 unfold Fw.f u6.f
 have htl:((ls.take i.toNat).length:Int)=i:=by simp;omega
 have key:=ahx ((ls.take i.toNat).length:Int) (by omega) (fun j=>(ai ls j).f1=x.f1) (fun r=>(r,x.f0,x.f1,x.f2,x.f3,x.f4)) (fun k j=>u6.l0 k (ls.take i.toNat) ((ls.take i.toNat).length:Int) j x.f0 x.f1 x.f2 x.f3 x.f4) ?_ ?_
 ·obtain ⟨r,hr,hc⟩:=key
  refine aa.bind hr ((aa.pure _).same ?_)
  rcases hc with ⟨rfl,hno⟩ | ⟨r0,r1,r2⟩
  ·rw [fK (fun ⟨j,j0,j1,j2⟩=>hno j j0 (by omega) j2)]
   rfl
  ·rw [fC ⟨r,r0,by omega,r2⟩]
   simp [r0]
 ·intro j j0 jlt
  have hw:wrap64 (j+1)=j+1:=dN (by omega) (by omega)
  have e:=take_at ls i.toNat j j0 (by omega) (by omega)
  simp only [u6.l0,hw,e,Mw.f,Option.bind_some]
  refine ⟨fun hp=>aa.pos jlt (aa.pos j0 (aa.pos jlt (aa.pos ?_ (aa.pure _)))),fun hp r hr=>aa.pos jlt (aa.pos j0 (aa.pos jlt (aa.neg ?_ hr)))⟩
  ·rw [beq_iff_eq];exact congrArg ByteArray.toList hp
  ·rw [beq_iff_eq];exact fun e=>hp (Hg.1 e)
 ·simp only [u6.l0]
  exact aa.neg (by omega) (aa.pure _)
theorem azd (p:PP) (Sw:p.lines.length≤1000):∃ r,aa (fun k=>iN.f k p.kind p.ref p.oth p.day p.notes p.lines) r∧((r = -1∧∀ j,0≤j→j<(p.lines.length:Int)→¬ KV p.kind p.lines j)∨(0≤r∧r<(p.lines.length:Int)∧KV p.kind p.lines r∧∀ j,0≤j→j<r→¬ KV p.kind p.lines j)):=by
 unfold iN.f
 refine V8 (p.lines.length:Int) (by omega) (KV p.kind p.lines) (fun k i=>iN.l0 k p.lines (p.lines.length:Int) i p.kind p.ref p.oth p.day p.notes p.lines) ?_ ?_
 ·intro i h0 hlt
  have hw:wrap64 (i+1)=i+1:=dN (by omega) (by omega)
  have own:=avU p.lines Sw i h0 hlt (ai p.lines i)
  have J:∀ b:Bool,(b=true→aa (fun k=>iN.j1 k i p.lines (p.lines.length:Int) i b p.kind p.ref p.oth p.day p.notes p.lines (ai p.lines i).f0 (ai p.lines i).f1 (ai p.lines i).f2 (ai p.lines i).f3 (ai p.lines i).f4) i) ∧
    (b=false→(xU p.kind∧∃ j:Int,0≤j∧j<i∧(ai p.lines j).f1=(ai p.lines i).f1)→aa (fun k=>iN.j1 k i p.lines (p.lines.length:Int) i b p.kind p.ref p.oth p.day p.notes p.lines (ai p.lines i).f0 (ai p.lines i).f1 (ai p.lines i).f2 (ai p.lines i).f3 (ai p.lines i).f4) i) ∧
    (b=false→¬ (xU p.kind∧∃ j:Int,0≤j∧j<i∧(ai p.lines j).f1=(ai p.lines i).f1)→∀ r,aa (fun k=>iN.l0 k p.lines (p.lines.length:Int) (i+1) p.kind p.ref p.oth p.day p.notes p.lines) r→aa (fun k=>iN.j1 k i p.lines (p.lines.length:Int) i b p.kind p.ref p.oth p.day p.notes p.lines (ai p.lines i).f0 (ai p.lines i).f1 (ai p.lines i).f2 (ai p.lines i).f3 (ai p.lines i).f4) r):=by
   intro b
   refine ⟨fun hb=>?_,fun hb ho=>?_,fun hb ho r hr=>?_⟩
   ·apply aa.succ
    simp only [iN.j1]
    exact aa.pos hb (aa.pure _)
   ·apply aa.succ
    simp only [iN.j1,akG,Option.bind_some]
    rw [fC ho.2] at own
    exact aa.neg (by rw [hb];decide) (aa.pos (fC ho.1) (aa.pos h0 (aa.pos (by omega) (aa.bind own (aa.pos (by simp) (aa.pure _))))))
   ·apply aa.succ
    simp only [iN.j1,akG,Option.bind_some,hw]
    refine aa.neg (by rw [hb];decide) ?_
    by_cases c:xU p.kind
    ·rw [fK (fun x=>ho ⟨c,x⟩)] at own
     exact aa.pos (fC c) (aa.pos h0 (aa.pos (by omega) (aa.bind own (aa.neg (by simp) hr))))
    ·exact aa.neg (by rw [fK c];decide) hr
  simp only [iN.l0,arw,yX,Option.bind_some]
  by_cases cc:yo p.kind
  ·rw [fC cc]
   by_cases cw:1≤(ai p.lines i).f0∧(ai p.lines i).f0≤999
   ·rw [fC cw]
    by_cases ci:i>0
    ·have hw1:wrap64 (i - 1)=i - 1:=dN (by omega) (by omega)
     simp only [hw1]
     by_cases cl:(ai p.lines i).f0≤(ai p.lines (i - 1)).f0
     ·refine ⟨fun _=>aa.pos hlt (aa.pos h0 (aa.pos hlt (aa.pos (by simp) (aa.pos (by simp) (aa.pos ci (aa.pos (by omega) (aa.pos (by omega) ((J _).1 (decide_eq_true cl))))))))),fun hn=>absurd (.inl ⟨cc,.inr ⟨ci,cl⟩⟩) hn⟩
     ·have hf:decide ((ai p.lines i).f0≤(ai p.lines (i - 1)).f0)=false:=decide_eq_false cl
      refine ⟨fun hb=>aa.pos hlt (aa.pos h0 (aa.pos hlt (aa.pos (by simp) (aa.pos (by simp) (aa.pos ci (aa.pos (by omega) (aa.pos (by omega) ((J _).2.1 hf ?_)))))))),fun hn r hr=>aa.pos hlt (aa.pos h0 (aa.pos hlt (aa.pos (by simp) (aa.pos (by simp) (aa.pos ci (aa.pos (by omega) (aa.pos (by omega) ((J _).2.2 hf (fun x=>hn (.inr x)) r hr))))))))⟩
      rcases hb with ⟨_,hb|hb⟩|hb
      ·exact absurd cw hb
      ·exact absurd hb.2 cl
      ·exact hb
    ·refine ⟨fun hb=>aa.pos hlt (aa.pos h0 (aa.pos hlt (aa.pos (by simp) (aa.pos (by simp) (aa.neg ci ((J _).2.1 rfl ?_)))))),fun hn r hr=>aa.pos hlt (aa.pos h0 (aa.pos hlt (aa.pos (by simp) (aa.pos (by simp) (aa.neg ci ((J _).2.2 rfl (fun x=>hn (.inr x)) r hr))))))⟩
     rcases hb with ⟨_,hb|hb⟩|hb
     ·exact absurd cw hb
     ·exact absurd hb.1 ci
     ·exact hb
   ·rw [fK cw]
    exact ⟨fun _=>aa.pos hlt (aa.pos h0 (aa.pos hlt (aa.pos (by simp) (aa.neg (by decide) ((J _).1 rfl))))),fun hn=>absurd (.inl ⟨cc,.inl cw⟩) hn⟩
  ·rw [fK cc]
   refine ⟨fun hb=>aa.pos hlt (aa.pos h0 (aa.pos hlt (aa.neg (by decide) ((J _).2.1 rfl ?_)))),fun hn r hr=>aa.pos hlt (aa.pos h0 (aa.pos hlt (aa.neg (by decide) ((J _).2.2 rfl (fun x=>hn (.inr x)) r hr))))⟩
   rcases hb with hb|hb
   ·exact absurd hb.1 cc
   ·exact hb
 ·simp only [iN.l0]
  exact aa.neg (by omega) (aa.pure _)
end Go.Proofs.YtapilmimgiaglaaGreatDoor.QA
namespace Go.Proofs.YtapilmimgiaglaaGreatDoor.QA
open Go.RowKit Go.Proofs.bB.fA Go.Proofs.YtapilmimgiaglaaGreatDoor.Ev0 Go.Proofs.YtapilmimgiaglaaGreatDoor.Num
theorem adv (tag:ByteArray) (ps:List ByteArray) (hl:ps.length≤1000) (h:∀ t ∈ ps,t.size≤1048576):Ba (sg tag ps).f1:=by
 refine ⟨by simp [sg];omega,fun x hx=>?_⟩
 obtain ⟨t,ht,rfl⟩:=List.mem_map.1 hx
 refine ⟨by simp [jl],fun y hy=>?_⟩
 simp [jl] at hy
 rw [hy]
 exact h t ht
theorem ahw (p:PP) (hp:vC p) (hn:p.notes.length≤40) (hl:p.lines.length≤20) (L:LN→List ByteArray) (h:∀ l,MZ l→(L l).length≤4∧∀ t ∈ L l,t.size≤1048576):H7 (lN p L):=by
 refine ⟨by rw [Eu];omega,fun x hx=>?_⟩
 unfold lN at hx
 rcases List.mem_cons.1 hx with rfl|hx
 ·refine adv _ _ (by unfold fH;split <;> simp) (fun t ht=>?_)
  obtain ⟨_,hd,hr,ho,_⟩:=hp
  have:=EJ hd
  unfold fH at ht
  split at ht <;> simp at ht
  ·rcases ht with rfl|rfl|rfl <;> assumption
  ·rcases ht with rfl|rfl <;> assumption
 ·rcases List.mem_append.1 hx with hx|hx
  ·obtain ⟨n,hn,rfl⟩:=List.mem_map.1 hx
   exact adv _ _ (by simp) (fun t ht=>by simp at ht;rw [ht];exact hp.2.2.2.2.1 n hn)
  ·obtain ⟨l,hl,rfl⟩:=List.mem_map.1 hx
   have:=h l (hp.2.2.2.2.2 l hl)
   exact adv _ _ (by omega) this.2
def Ve (p:PP):Prop:=I4 p∧∀ j,0≤j→j<(p.lines.length:Int)→¬ KV p.kind p.lines j
theorem aj8 (p:PP) (hk:vz p.kind) (hp:vC p) (hn:p.notes.length≤2) (hl:p.lines.length≤20) (r:Int × Int × Int) (hr:aa (fun k=>eY.f k p.kind (xC p)) r) :
  (r.2.2≠0→aa (fun k=>jD.j0 k false p.kind p.ref p.oth p.day p.notes p.lines) false) ∧
  (r.2.2=0→FB p (lT p.kind)→aa (fun k=>jD.j0 k false p.kind p.ref p.oth p.day p.notes p.lines) (B (Ve p))):=by
 have hb:=agz p hk hp (by omega) hl
 refine ⟨fun h=>?_,fun h fb=>?_⟩
 ·apply aa.succ
  simp only [jD.j0]
  exact aa.neg (by simp) (aa.bind hb (aa.bind hr (aa.neg h (aa.pure _))))
 ·apply aa.succ
  simp only [jD.j0]
  refine aa.neg (by simp) (aa.bind hb (aa.bind hr (aa.pos h (aa.bind (avY p hk hp fb) (aa.bind (awz p (by omega) (by omega)) ?_)))))
  by_cases c:I4 p
  ·rw [fC c]
   obtain ⟨w,hw,hc⟩:=azd p (by omega)
   refine aa.pos rfl (aa.bind hw ((aa.pure _).same ?_))
   rcases hc with ⟨rfl,h2⟩ | ⟨w0,w1,w2,_⟩
   ·exact (fC ⟨c,h2⟩).symm
   ·rw [fK (fun x=>x.2 w w0 w1 w2)]
    exact decide_eq_false (by omega)
  ·rw [fK c]
   exact aa.neg (by decide) ((aa.pure _).same (fK (fun x=>c x.1)).symm)
def gd (t:ByteArray):Prop:=xw t∧t.toList≠([]:List UInt8)
theorem ayN (tag:ByteArray) (h:tag=jq∨tag=mF∨tag=xV∨tag=yS∨tag=Ja):aa (fun k=>uG.f k tag) true:=by
 have hz:(tag.size:Int)=3:=by rcases h with rfl|rfl|rfl|rfl|rfl <;> rfl
 unfold uG.f
 refine aa.pos hz (G6 3 (by omega) (fun k i=>uG.l0 k tag i) ?_ ?_)
 ·intro i h0 hlt ih
  have hw:wrap64 (i+1)=i+1:=dN (by omega) (by omega)
  have hb:65≤bt tag i∧bt tag i≤90:=by
   have:i=0∨i=1∨i=2:=by omega
   rcases this with rfl|rfl|rfl <;> rcases h with rfl|rfl|rfl|rfl|rfl <;> decide
  simp only [uG.l0,hw]
  exact aa.pos hlt (aa.pos h0 (aa.pos (by omega) (aa.neg (by omega) (aa.neg (by omega) ih))))
 ·simp only [uG.l0]
  exact aa.neg (by omega) (aa.pure _)
theorem VZ (ps:List ByteArray) (i:Int) (h0:0≤i) (h:i<(ps.length:Int)):(aH (ps.map jl) i).f0=[aX ByteArray.empty ps i]:=by
 obtain ⟨m,rfl⟩:∃ m:Nat,i=(m:Int):=⟨i.toNat,by omega⟩
 rw [adq ps m (by omega)]
 unfold aX
 rw [Int.toNat_natCast,getD_at _ _ _ (by omega)]
theorem XI (tag:ByteArray) (h:tag=jq∨tag=mF∨tag=xV∨tag=yS∨tag=Ja) (ps:List ByteArray) (hl:ps.length≤10) (hs:∀ t ∈ ps,t.size≤1048576) :
  ∃ b,aa (fun k=>iG.f k (sg tag ps).f0 (sg tag ps).f1) b∧((∀ t ∈ ps,gd t)→b=true):=by
 have hel:((ps.map jl).length:Int)=(ps.length:Int):=by simp
 have L:=FP ((ps.map jl).length:Int) (by omega) (fun i=>xw (aX ByteArray.empty ps i)) ((ps.length:Int)=0∨(aX ByteArray.empty ps ((ps.length:Int) - 1)).toList≠([]:List UInt8)) (fun k i=>iG.l0 k i tag (ps.map jl)) ?_ ?_
 ·refine ⟨B ((∀ i:Int,0≤i→i<((ps.map jl).length:Int)→xw (aX ByteArray.empty ps i))∧((ps.length:Int)=0∨(aX ByteArray.empty ps ((ps.length:Int) - 1)).toList≠([]:List UInt8))),?_,fun hg=>?_⟩
  rotate_left
  ·refine fC (p:=(∀ i:Int,0≤i→i<((ps.map jl).length:Int)→xw (aX ByteArray.empty ps i))∧((ps.length:Int)=0∨(aX ByteArray.empty ps ((ps.length:Int) - 1)).toList≠([]:List UInt8))) ⟨fun i h0 hlt=>(hg _ (FM ps i h0 (by omega))).1,?_⟩
   by_cases c:(ps.length:Int)=0
   ·exact .inl c
   ·exact .inr (hg _ (FM ps _ (by omega) (by omega))).2
  ·unfold iG.f
   refine aa.bind (ayN tag h) (aa.pos rfl ?_)
   rw [show decide (((sg tag ps).f1.length:Int)>10)=false from decide_eq_false (by simp [sg];omega)]
   apply aa.succ
   simp only [iG.j0]
   exact aa.neg (by simp) L
 ·intro i h0 hlt
  have hlt':i<(ps.length:Int):=by omega
  have hw:wrap64 (i+1)=i+1:=dN (by omega) (by omega)
  have hw1:wrap64 (0+1)=1:=dN (by omega) (by omega)
  have pt:=ak9 (aX ByteArray.empty ps i) (by have:=hs _ (FM ps i h0 hlt');omega)
  simp only [iG.l0,VZ ps i h0 hlt']
  have J:∀ r,(xw (aX ByteArray.empty ps i)→aa (fun k=>iG.l0 k (i+1) tag (ps.map jl)) r)→(¬ xw (aX ByteArray.empty ps i)→r=false)→aa (fun k=>iG.j2 k i [aX ByteArray.empty ps i] false tag (ps.map jl)) r:=fun r hr hf=>by
   apply aa.succ
   simp only [iG.j2]
   refine aa.neg (by simp) ?_
   apply aa.succ
   simp only [iG.l1,MR]
   refine aa.pos (by simp) (aa.pos (by simp) (aa.bind pt ?_))
   by_cases c:xw (aX ByteArray.empty ps i)
   ·rw [fC c]
    refine aa.pos rfl ?_
    rw [hw1]
    apply aa.succ
    simp only [iG.l1,hw]
    exact aa.neg (by simp) (hr c)
   ·rw [fK c,hf c]
    exact aa.neg (by decide) (aa.pure _)
  exact ⟨fun hk r hr=>aa.pos hlt (aa.pos h0 (aa.neg (by simp) (aa.neg (by simp) (aa.neg (by simp) (J r (fun _=>hr) (fun x=>absurd hk x)))))),
   fun hk=>aa.pos hlt (aa.pos h0 (aa.neg (by simp) (aa.neg (by simp) (aa.neg (by simp) (J false (fun x=>absurd x hk) (fun _=>rfl))))))⟩
 ·simp only [iG.l0]
  refine aa.neg (by omega) ?_
  by_cases c:(ps.length:Int)=0
  ·exact aa.pos (by omega) ((aa.pure _).same (fC (.inl c)).symm)
  ·have hw2:wrap64 (((ps.map jl).length:Int) - 1)=(ps.length:Int) - 1:=by rw [hel];exact dN (by omega) (by omega)
   rw [hw2,VZ ps _ (by omega) (by omega)]
   refine aa.neg (by omega) (aa.pos (by omega) (aa.pos (by omega) ?_))
   unfold Jg.f
   rw [if_pos (by simp),if_pos (by simp),MR]
   simp only [Option.bind_some]
   refine (aa.pure _).same (Hd ?_)
   rw [Bool.not_eq_true',beq_eq_false_iff_ne]
   exact ⟨fun x=>.inr x,fun x=>x.resolve_left c⟩
theorem awD (tag:ByteArray) (ps:List ByteArray) (hl:ps.length≤1000):aa (fun k=>kL.f k (sg tag ps).f0 (sg tag ps).f1 (sg tag ps).f0 (sg tag ps).f1) true:=by
 unfold kL.f
 refine aa.pos rfl ?_
 rw [show ((((sg tag ps).f1.length:Int) != ((sg tag ps).f1.length:Int)))=false by simp]
 apply aa.succ
 simp only [kL.j0]
 refine aa.neg (by simp) ?_
 show aa (fun k=>kL.l0 k 0 tag (ps.map jl) tag (ps.map jl)) true
 refine G6 ((ps.map jl).length:Int) (by omega) (fun k i=>kL.l0 k i tag (ps.map jl) tag (ps.map jl)) ?_ ?_
 ·intro i h0 hlt ih
  have hlt':i<(ps.length:Int):=by simpa using hlt
  have hw:wrap64 (i+1)=i+1:=dN (by omega) (by omega)
  have e:=VZ ps i h0 hlt'
  simp only [kL.l0]
  refine aa.pos hlt (aa.pos h0 (aa.pos hlt (aa.pos (by simp) ?_)))
  apply aa.succ
  simp only [kL.l1,e,MR]
  refine aa.pos h0 (aa.pos hlt (aa.pos (by simp) (aa.pos (by simp) (aa.pos hlt (aa.pos (by simp) (aa.pos (by simp) ?_))))))
  rw [show wrap64 (0+1)=1 from dN (by omega) (by omega)]
  apply aa.succ
  simp only [kL.l1,e,hw]
  exact aa.pos h0 (aa.pos hlt (aa.neg (by simp) ih))
 ·simp only [kL.l0]
  exact aa.neg (by omega) (aa.pure _)
end Go.Proofs.YtapilmimgiaglaaGreatDoor.QA
namespace Go.Proofs.YtapilmimgiaglaaGreatDoor.QA
open Go.RowKit Go.Proofs.bB.fA Go.Proofs.YtapilmimgiaglaaGreatDoor.Ev0 Go.Proofs.YtapilmimgiaglaaGreatDoor.Num
theorem avH (k:Int):Jh.f k=some (B (yo k)):=by
 unfold Jh.f yo
 by_cases h:k≥1
 ·rw [if_pos h]
  exact congrArg some ((AZ _).trans (jB ⟨fun x=>⟨h,x⟩,fun x=>x.2⟩))
 ·rw [if_neg h,fK (fun x=>h x.1)]
theorem akM (k:Int):Ji.f k=some (B (xU k)):=by
 unfold Ji.f xU
 by_cases h1:k=1
 ·rw [if_pos h1,fC (.inl h1)]
 ·rw [if_neg h1]
  by_cases h5:k=5
  ·rw [if_pos h5,fC (.inr (.inl h5))]
  ·rw [if_neg h5]
   exact congrArg some (Hd (by rw [beq_iff_eq];omega))
def AU (k:Int) (ls:List LN) (i:Int):Prop :=
 (yo k∧((ai ls i).f0≤(if 0<i then (ai ls (i - 1)).f0 else 0)∨(ai ls i).f0>999)) ∨
 (xU k∧∃ j:Int,0≤j∧j<i∧(ai ls j).f1=(ai ls i).f1)
theorem aqb (k:Int) (ls:List LN):(∀ i:Int,0≤i→i<(ls.length:Int)→¬ AU k ls i) ↔ (∀ i:Int,0≤i→i<(ls.length:Int)→¬ KV k ls i):=by
 constructor
 ·intro h
  have pos:∀ (d:Nat) (i:Int),i=(d:Int)→i<(ls.length:Int)→yo k→1≤(ai ls i).f0:=by
   intro d
   induction d with
   | zero =>
    intro i e hlt hc
    have:=h i (by omega) hlt
    unfold AU at this
    rw [if_neg (by omega)] at this
    rcases Int.lt_or_le 0 (ai ls i).f0 with g|g
    ·omega
    ·exact absurd (.inl ⟨hc,.inl g⟩) this
   | succ d ih =>
    intro i e hlt hc
    have:=h i (by omega) hlt
    unfold AU at this
    rw [if_pos (by omega)] at this
    have p:=ih (i - 1) (by omega) (by omega) hc
    rcases Int.lt_or_le (ai ls (i - 1)).f0 (ai ls i).f0 with g|g
    ·omega
    ·exact absurd (.inl ⟨hc,.inl g⟩) this
  intro i h0 hlt hb
  refine h i h0 hlt ?_
  rcases hb with ⟨hc,hb | ⟨hi,hb⟩⟩|hb
  ·have:=pos i.toNat i (by omega) hlt hc
   exact .inl ⟨hc,.inr (by omega)⟩
  ·exact .inl ⟨hc,.inl (by rw [if_pos hi];exact hb)⟩
  ·exact .inr hb
 ·intro h i h0 hlt hb
  refine h i h0 hlt ?_
  rcases hb with ⟨hc,hb|hb⟩|hb
  ·by_cases hi:0<i
   ·rw [if_pos hi] at hb
    exact .inl ⟨hc,.inr ⟨hi,hb⟩⟩
   ·rw [if_neg hi] at hb
    exact .inl ⟨hc,.inl (by omega)⟩
  ·exact .inl ⟨hc,.inl (by omega)⟩
  ·exact .inr hb
theorem avw {k:Int} {l:LN} (h:I1 l):I1 (fM k l):=by
 obtain ⟨a,b,c⟩:=h
 have z:i64 0:=⟨by decide,by decide⟩
 unfold fM
 repeat' split
 all_goals exact ⟨by first|exact a|exact z,by first|exact b|exact z,by first|exact c|exact z⟩
theorem avx (k:Int) (hk:vz k) (l:LN) (h:LF (rZ k) (rZ k++yN k) (bO k l)):bO k (fM k l)=bO k l:=by
 obtain ⟨a,b⟩:=hk
 have Qv:k=1∨k=2∨k=3∨k=4∨k=5∨k=6∨k=7:=by omega
 rcases Qv with rfl|rfl|rfl|rfl|rfl|rfl|rfl
 ·rfl
 ·rfl
 ·have c:l.f4.toList=([]:List UInt8):=by
   by_cases c:l.f4.toList=([]:List UInt8)
   ·exact c
   ·exfalso
    have:=h.2.1
    simp [bO,mX,c,rZ,yN] at this
  have e:mX l.f4=[]:=by unfold mX;rw [if_pos c]
  have e2:mX iF=[]:=by unfold mX;rw [if_pos (O5.2 rfl)]
  show [dc l.f0,dc l.f2]++mX iF=[dc l.f0,dc l.f2]++mX l.f4
  rw [e,e2]
 ·rfl
 ·rfl
 ·rfl
 ·rfl
abbrev RT:=Int × ByteArray × ByteArray × Int × List ByteArray × (List LN) × Int × Int
theorem awv (p:PP) (L) (i:Nat) (h:i<p.lines.length):av (lN p L) ((1+p.notes.length+i:Nat):Int)=sg (kQ p.kind) (L p.lines[i]):=by
 rw [show ((1+p.notes.length+i:Nat):Int)=1+(p.notes.length:Int)+(i:Int) by omega]
 exact aav p L i h
theorem av0 (p : PP) (hk : vz p.kind) (hp : vC p) (fb : FB p (bO p.kind)) (oth : ByteArray) : ∀ (d q : Nat), q + d = p.lines.length →
    ∃ r : RT, aa (fun k => bK.l0 k p.kind (lN p (bO p.kind)) ((1 + p.notes.length + q : Nat) : Int) p.kind p.ref oth p.day p.notes ((p.lines.map (fM p.kind)).take q)) r ∧
      (((∀ i : Int, (q : Int) ≤ i → i < (p.lines.length : Int) → ¬ AU p.kind (p.lines.map (fM p.kind)) i) ∧ r = (p.kind, p.ref, oth, p.day, p.notes, p.lines.map (fM p.kind), 0, 0)) ∨
       ((∃ i : Int, (q : Int) ≤ i ∧ i < (p.lines.length : Int) ∧ AU p.kind (p.lines.map (fM p.kind)) i) ∧ r.2.2.2.2.2.2.2 ≠ 0)) := by
  have hlen := Eu p (bO p.kind)
  have hL := awv p (bO p.kind)
  have n2 := fb.notes
  have Sw := fb.lines
  have fl := fb.line
  generalize lN p (bO p.kind) = body at *
  have hml : (p.lines.map (fM p.kind)).length = p.lines.length := by simp
  have hmg : ∀ (i : Nat) (h : i < p.lines.length), ai (p.lines.map (fM p.kind)) (i : Int) = fM p.kind p.lines[i] := fun i h => by
    rw [FN _ _ (by rw [hml]; exact h), List.getElem_map]
  generalize hls : p.lines.map (fM p.kind) = ls at *
  intro d
  induction d with
  | zero =>
    intro q hq
    refine ⟨_, ?_, .inl ⟨fun i a b => absurd b (by omega), rfl⟩⟩
    apply aa.succ
    simp only [bK.l0]
    refine aa.neg (by omega) ((aa.pure _).same ?_)
    rw [List.take_of_length_le (by omega)]
  | succ d ih =>
    intro q hq
    have hqn : q < p.lines.length := by omega
    obtain ⟨r, hr, hc⟩ := ih (q + 1) (by omega)
    have hw : wrap64 (((1 + p.notes.length + q : Nat) : Int) + 1) = ((1 + p.notes.length + (q + 1) : Nat) : Int) := by rw [dN (by omega) (by omega)]; omega
    have hseg := hL q hqn
    have hx := hmg q hqn
    have hsl := adw hp q hqn
    have hfl := fl _ (List.getElem_mem hqn)
    have hread := avu p.kind hk p.lines[q] hsl (kQ p.kind) hfl
    have hwrite := akC p.kind (fM p.kind p.lines[q]) (avw hsl.1)
    rw [avx p.kind hk _ hfl] at hwrite
    have hsame := awD (kQ p.kind) (bO p.kind p.lines[q]) (by have := Sy p.kind p.lines[q]; omega)
    rw [List.take_succ_eq_append_getElem (by rw [hml]; exact hqn)] at hr
    have hxe : ls[q]'(by rw [hml]; exact hqn) = fM p.kind p.lines[q] := by rw [← hx, FN _ _ (by rw [hml]; exact hqn)]
    rw [hxe] at hr
    generalize hX : fM p.kind p.lines[q] = x at *
    have htl : ((ls.take q).length : Int) = (q : Int) := by simp; omega
    -- the line stands: it is written, held to the segment, taken
    have G : aa (fun k => (eF.f k p.kind x.f0 x.f1 x.f2 x.f3 x.f4).bind fun agH => (if 0 ≤ ((1 + p.notes.length + q : Nat) : Int) then (if ((1 + p.notes.length + q : Nat) : Int) < (body.length : Int) then ((kL.f k agH.1 agH.2 ((av body ((1 + p.notes.length + q : Nat) : Int)).f0) ((av body ((1 + p.notes.length + q : Nat) : Int)).f1)).bind fun mH => (if mH = true then (if (ls.take q).length < 2513169434916 then (bK.l0 k p.kind body (wrap64 (((1 + p.notes.length + q : Nat) : Int) + 1)) p.kind p.ref oth p.day p.notes (ls.take q ++ [(⟨x.f0, x.f1, x.f2, x.f3, x.f4⟩ : LN)])) else (none)) else (some (0, iF, iF, 0, ([] : List ByteArray), ([] : List LN), ((1 + p.notes.length + q : Nat) : Int), 3)))) else (none)) else (none))) r := by
      rw [hw, hseg]
      exact aa.bind hwrite (aa.pos (by omega) (aa.pos (by omega) (aa.bind hsame (aa.pos rfl (aa.pos (by omega) hr)))))
    have J5 : ∀ y : Int, aa (fun k => bK.j5 k p.kind body ((1 + p.notes.length + q : Nat) : Int) y false p.kind p.ref oth p.day p.notes (ls.take q) x.f0 x.f1 x.f2 x.f3 x.f4) r := fun y => by
      apply aa.succ
      simp only [bK.j5]
      exact aa.neg (by simp) G
    let ER : RT := (0, iF, iF, 0, ([] : List ByteArray), ([] : List LN), ((1 + p.notes.length + q : Nat) : Int), 11)
    have OL : ∃ r' : RT, aa (fun k => bK.l1 k p.kind body ((1 + p.notes.length + q : Nat) : Int) 0 p.kind p.ref oth p.day p.notes (ls.take q) x.f0 x.f1 x.f2 x.f3 x.f4) r' ∧ ((¬ (xU p.kind ∧ ∃ j : Int, 0 ≤ j ∧ j < (q : Int) ∧ (ai ls j).f1 = x.f1) ∧ r' = r) ∨ ((xU p.kind ∧ ∃ j : Int, 0 ≤ j ∧ j < (q : Int) ∧ (ai ls j).f1 = x.f1) ∧ r' = ER)) := by
      by_cases ow : xU p.kind
      · have key := ahx ((ls.take q).length : Int) (by omega) (fun j => (ai ls j).f1 = x.f1) (fun z => if z = -1 then r else ER) (fun k j => bK.l1 k p.kind body ((1 + p.notes.length + q : Nat) : Int) j p.kind p.ref oth p.day p.notes (ls.take q) x.f0 x.f1 x.f2 x.f3 x.f4) ?_ ?_
        · obtain ⟨z, hz, hzc⟩ := key
          rcases hzc with ⟨rfl, hno⟩ | ⟨z0, z1, z2⟩
          · exact ⟨r, hz.same (if_pos rfl), .inl ⟨fun ⟨_, j, j0, j1, j2⟩ => hno j j0 (by omega) j2, rfl⟩⟩
          · exact ⟨ER, hz.same (if_neg (by omega)), .inr ⟨⟨ow, z, z0, by omega, z2⟩, rfl⟩⟩
        · intro j j0 jlt
          have hwj : wrap64 (j + 1) = j + 1 := dN (by omega) (by omega)
          have e := take_at ls q j j0 (by omega) (by omega)
          simp only [bK.l1, akM, Option.bind_some]
          rw [fC ow]
          refine ⟨fun hj => aa.pos jlt ?_, fun hj r' hr' => aa.pos jlt ?_⟩
          · apply aa.succ
            simp only [bK.j5, e]
            rw [if_neg (by omega : ¬ j = -1)]
            exact aa.pos (by simp) (aa.pos j0 (aa.pos jlt (aa.pos (by rw [hj]) (aa.pure _))))
          · apply aa.succ
            simp only [bK.j5, e, hwj]
            exact aa.pos (by simp) (aa.pos j0 (aa.pos jlt (aa.neg (fun e => hj (Hg.1 e)) hr')))
        · simp only [bK.l1, if_true]
          exact aa.neg (by omega) (J5 _)
      · refine ⟨r, ?_, .inl ⟨fun z => ow z.1, rfl⟩⟩
        apply aa.succ
        simp only [bK.l1, akM, Option.bind_some]
        rw [fK ow]
        exact aa.ite (fun _ => J5 _) (fun _ => J5 _)
    obtain ⟨r', hr', hc'⟩ := OL
    have J3 : ∀ b : Bool, aa (fun k => bK.j3 k p.kind body ((1 + p.notes.length + q : Nat) : Int) b p.kind p.ref oth p.day p.notes (ls.take q) x.f0 x.f1 x.f2 x.f3 x.f4) (if b = true then ER else r') := fun b => by
      apply aa.succ
      simp only [bK.j3]
      cases b
      · exact aa.neg (by simp) hr'
      · exact aa.pos rfl (aa.pure _)
    have J2 : ∀ last : Int, aa (fun k => bK.j2 k p.kind body ((1 + p.notes.length + q : Nat) : Int) last p.kind p.ref oth p.day p.notes (ls.take q) x.f0 x.f1 x.f2 x.f3 x.f4) (if B (yo p.kind ∧ (x.f0 ≤ last ∨ x.f0 > 999)) = true then ER else r') := fun last => by
      apply aa.succ
      simp only [bK.j2, avH, Option.bind_some]
      by_cases cc : yo p.kind
      · rw [fC cc]
        refine aa.pos rfl ?_
        by_cases cl : x.f0 ≤ last
        · exact aa.pos cl ((J3 true).same (by rw [fC ⟨cc, .inl cl⟩]))
        · refine aa.neg cl ((J3 _).same ?_)
          by_cases cg : x.f0 > 999
          · rw [decide_eq_true cg, fC ⟨cc, .inr cg⟩]
          · rw [decide_eq_false cg, fK (fun z => z.2.elim cl cg)]
      · rw [fK cc]
        exact aa.neg (by decide) ((J3 false).same (by rw [fK (fun z => cc z.1)]))
    let last : Int := if 0 < (q : Int) then (ai ls ((q : Int) - 1)).f0 else 0
    refine ⟨if B (yo p.kind ∧ (x.f0 ≤ last ∨ x.f0 > 999)) = true then ER else r', ?_, ?_⟩
    · apply aa.succ
      simp only [bK.l0, hseg]
      refine aa.pos (by omega) (aa.pos (by omega) (aa.neg (alo _) (aa.bind hread ?_)))
      by_cases c : (q : Int) > 0
      · have hw2 : wrap64 (((ls.take q).length : Int) - 1) = (q : Int) - 1 := by rw [htl]; exact dN (by omega) (by omega)
        rw [hw2, take_at ls q ((q : Int) - 1) (by omega) (by omega) (by omega)]
        refine aa.pos (by omega) (aa.pos (by omega) (aa.pos (by omega) ((J2 _).same ?_)))
        rw [show last = (ai ls ((q : Int) - 1)).f0 from if_pos c]
      · refine aa.neg (by omega) ((J2 _).same ?_)
        rw [show last = 0 from if_neg c]
    · have hb : AU p.kind ls (q : Int) ↔ ((yo p.kind ∧ (x.f0 ≤ last ∨ x.f0 > 999)) ∨ (xU p.kind ∧ ∃ j : Int, 0 ≤ j ∧ j < (q : Int) ∧ (ai ls j).f1 = x.f1)) := by
        unfold AU
        rw [hx]
      by_cases c1 : yo p.kind ∧ (x.f0 ≤ last ∨ x.f0 > 999)
      · rw [fC c1, if_pos rfl]
        exact .inr ⟨⟨(q : Int), by omega, by omega, hb.2 (.inl c1)⟩, (show (11 : Int) ≠ 0 by decide)⟩
      · rw [fK c1, if_neg (by decide)]
        rcases hc' with ⟨no, rfl⟩ | ⟨ye, rfl⟩
        · rcases hc with ⟨h1, h2⟩ | ⟨⟨i, a, b, c⟩, h2⟩
          · refine .inl ⟨fun i a b => ?_, h2⟩
            by_cases e : i = (q : Int)
            · rw [e]; exact fun z => (hb.1 z).elim c1 no
            · exact h1 i (by omega) b
          · exact .inr ⟨⟨i, by omega, b, c⟩, h2⟩
        · exact .inr ⟨⟨(q : Int), by omega, by omega, hb.2 (.inr ye)⟩, (show (11 : Int) ≠ 0 by decide)⟩
end Go.Proofs.YtapilmimgiaglaaGreatDoor.QA
namespace Go.Proofs.YtapilmimgiaglaaGreatDoor.QA
open Go.RowKit Go.Proofs.bB.fA Go.Proofs.YtapilmimgiaglaaGreatDoor.Ev0 Go.Proofs.YtapilmimgiaglaaGreatDoor.Num
theorem amG {α:Type} {f:Nat→Option α} {r:α} (h:aa f r):aa (fun k=>f (k+1)) r:=by
 obtain ⟨K,hK⟩:=h
 exact ⟨K,fun k hk=>hK (k+1) (by omega)⟩
theorem avZ (p:PP) (hk:vz p.kind) (hp:vC p) (fb:FB p (bO p.kind)) (t:Int × Int × Int) (ht:aa (fun k=>dP.f k p.kind (lN p (bO p.kind))) t) (h0:t.2.2=0) :
    ∃ r:RT,aa (fun k=>bK.f k p.kind (lN p (bO p.kind))) r ∧
      (((∀ i:Int,0≤i→i<(p.lines.length:Int)→¬ AU p.kind (p.lines.map (fM p.kind)) i)∧r=(p.kind,p.ref,qX p,p.day,p.notes,p.lines.map (fM p.kind),0,0)) ∨
       ((∃ i:Int,0≤i∧i<(p.lines.length:Int)∧AU p.kind (p.lines.map (fM p.kind)) i)∧r.2.2.2.2.2.2.2≠0)):=by
  have hlen:=Eu p (bO p.kind)
  have hd0:=Vk p (bO p.kind)
  have hN:=aaw p (bO p.kind)
  have n2:=fb.notes
  obtain ⟨dT,d0,d1⟩:=ahf p hp.2.1 fb.doc
  obtain ⟨r,hr,hc⟩:=av0 p hk hp fb (qX p) p.lines.length 0 (by omega)
  refine ⟨r,?_,hc⟩
  clear hc
  rw [List.take_zero,Nat.add_zero] at hr
  generalize lN p (bO p.kind)=body at *
  have L0:aa (fun k=>bK.l0 k p.kind body 1 p.kind p.ref (qX p) p.day [] []) r:=by
    have key:=ru (p.notes.length:Int) (fun k (s:List ByteArray) i=>bK.l0 k p.kind body (1+i) p.kind p.ref (qX p) p.day s []) (fun i=>p.notes.take i.toNat) (fun _=>r) ?_ ?_ 0 (Int.le_refl _) (by omega)
    · simpa using key
    · intro i g0 hlt ih
      obtain ⟨m,rfl⟩:∃ m:Nat,i=(m:Int):=⟨i.toNat,by omega⟩
      have hm:m<p.notes.length:=by omega
      have hw:wrap64 (1+(m:Int)+1)=1+((m:Int)+1):=by rw [dN (by omega) (by omega)];omega
      have hpart:=yP mF [p.notes[m]] 0
      simp only [bK.l0,hN m hm,hw]
      rw [show ((m:Int)+1).toNat=m+1 by omega,List.take_succ_eq_append_getElem hm] at ih
      exact aa.pos (by omega) (aa.pos (by omega) (aa.pos akI (aa.bind (aa.const hpart) (aa.pos (by simp;omega) ih))))
    · have:=amG hr
      rw [Int.toNat_natCast,List.take_of_length_le (by omega)]
      rwa [show ((1+p.notes.length:Nat):Int)=1+(p.notes.length:Int) by omega] at this
  have J0:aa (fun k=>bK.j0 k p.kind body p.kind p.ref (qX p) p.day) r:=by
    apply aa.succ
    simp only [bK.j0]
    exact L0
  unfold bK.f
  refine aa.bind ht (aa.pos h0 (aa.pos (by omega) ?_))
  simp only [hd0,ahL,Option.bind_some]
  have p0:=yP jq (fH p) 0
  have e0:(fH p).getD 0 iF=p.ref:=by unfold fH;split <;> rfl
  rw [e0] at p0
  refine aa.bind (aa.const p0) ?_
  by_cases c:2≤p.kind∧p.kind≤4
  · have ed:fH p=[p.ref,p.oth,dc p.day]:=by unfold fH;rw [if_pos c]
    have eo:qX p=p.oth:=by unfold qX;rw [if_pos c]
    rw [eo] at J0
    have p1:=yP jq (fH p) 1
    have e1:(fH p).getD 1 iF=p.oth:=by rw [ed];rfl
    rw [e1] at p1
    obtain ⟨v,hv,_⟩:=acW p.oth (by have:=hp.2.2.2.1;omega)
    have n1:aa (fun k=>jT.f k jq ((fH p).map jl) 1) v:=by
      unfold jT.f
      rw [show (1:Int)=((1:Nat):Int) from rfl,p1]
      simp only [Option.bind_some]
      exact aa.bind hv (aa.pure _)
    have n2':=uE jq (fH p) 2 (by rw [ed];exact dT)
    rw [show (fH p).getD 2 iF=dc p.day by rw [ed];rfl,lD] at n2'
    refine aa.bind n1 ?_
    rw [fC c]
    exact aa.pos rfl (aa.bind (aa.const p1) (aa.bind n2' J0))
  · have ed:fH p=[p.ref,dc p.day]:=by unfold fH;rw [if_neg c]
    have eo:qX p=iF:=by unfold qX;rw [if_neg c]
    rw [eo] at J0
    have n1:=uE jq (fH p) 1 (by rw [ed];exact dT)
    rw [show (fH p).getD 1 iF=dc p.day by rw [ed];rfl,lD] at n1
    refine aa.bind n1 ?_
    rw [fK c]
    exact aa.neg (by decide) J0
theorem awC (p:PP) (n2:p.notes.length≤1000) (Sw:p.lines.length≤1000):aa (fun k=>jM.f k p.kind p.ref (qX p) p.day p.notes (p.lines.map (fM p.kind)) p.kind p.ref p.oth p.day p.notes p.lines) (B (I4 p)):=by
 unfold jM.f
 have J:∀ b:Bool,b=true→aa (fun k=>jM.j0 k b p.kind p.ref (qX p) p.day p.notes (p.lines.map (fM p.kind)) p.kind p.ref p.oth p.day p.notes p.lines) false:=fun b hb=>by
  apply aa.succ
  simp only [jM.j0]
  exact aa.pos hb (aa.pure _)
 refine aa.pos rfl (aa.pos rfl ?_)
 by_cases c:qX p=p.oth
 ·refine aa.pos (by rw [c]) (aa.pos rfl (aa.pos rfl ?_))
  rw [show (((p.lines.map (fM p.kind)).length:Int) != (p.lines.length:Int))=false by simp]
  apply aa.succ
  simp only [jM.j0]
  refine aa.neg (by simp) ?_
  have L1:=FP ((p.lines.map (fM p.kind)).length:Int) (by omega) (fun i=>fM p.kind (ai p.lines i)=ai p.lines i) True (fun k i=>jM.l1 k i p.kind p.ref (qX p) p.day p.notes (p.lines.map (fM p.kind)) p.kind p.ref p.oth p.day p.notes p.lines) ?_ ?_
  ·have key:=ru (p.notes.length:Int) (fun k (_:Unit) i=>jM.l0 k i p.kind p.ref (qX p) p.day p.notes (p.lines.map (fM p.kind)) p.kind p.ref p.oth p.day p.notes p.lines) (fun _=>()) (fun _=>B (I4 p)) ?_ ?_ 0 (Int.le_refl _) (by omega)
   ·exact key
   ·intro i h0 hlt ih
    have hw:wrap64 (i+1)=i+1:=dN (by omega) (by omega)
    simp only [jM.l0,hw,if_true]
    exact aa.pos hlt (aa.pos h0 (aa.pos hlt ih))
   ·simp only [jM.l0]
    refine aa.neg (by omega) (L1.same (jB ?_))
    rw [List.length_map]
    constructor
    ·intro h
     exact ⟨c,(Vh p (fun l=>fM p.kind l=l)).1 h.1⟩
    ·intro h
     exact ⟨(Vh p (fun l=>fM p.kind l=l)).2 h.2,trivial⟩
  ·intro i h0 hlt
   have hlt':i<(p.lines.length:Int):=by rwa [List.length_map] at hlt
   have hw:wrap64 (i+1)=i+1:=dN (by omega) (by omega)
   simp only [jM.l1,hw,akW p i h0 hlt']
   exact ⟨fun hk r hr=>aa.pos hlt (aa.pos h0 (aa.pos hlt' (aa.neg (fun x=>(Xm _ _).1 x hk) hr))),fun hk=>aa.pos hlt (aa.pos h0 (aa.pos hlt' (aa.pos ((Xm _ _).2 hk) (aa.pure _))))⟩
  ·simp only [jM.l1]
   exact aa.neg (by omega) ((aa.pure _).same (fC trivial).symm)
 ·exact aa.neg (fun h=>c (Hg.1 h)) ((J true rfl).same (fK (fun h=>c h.1)).symm)
end Go.Proofs.YtapilmimgiaglaaGreatDoor.QA
namespace Go.Proofs.YtapilmimgiaglaaGreatDoor.QA
open Go.RowKit Go.Proofs.bB.fA Go.Proofs.YtapilmimgiaglaaGreatDoor.Ev0 Go.Proofs.YtapilmimgiaglaaGreatDoor.Num
theorem av3 {t:ByteArray} (h:t.size≤40) (hc:∀ c ∈ t.data.toList,32≤(c.toNat:Int)∧(c.toNat:Int)≤126):xw t :=
 ⟨by omega,(OW t (fun c=>32≤c∧c≤126)).2 hc⟩
theorem Wj {t:ByteArray} (h:je t.data.toList) (a : -1000000000≤iO t.data.toList) (b:iO t.data.toList≤1000000000):gd t:=by
 have h12:=ac2 _ h a b
 obtain ⟨h1,h2,h3⟩:=h
 have hs:t.data.toList.length≤13:=by
  unfold iH at h12
  split at h12
  ·rw [List.length_tail] at h12;omega
  ·omega
 refine ⟨av3 (by rw [← rP];omega) (fun c hc=>?_),fun e=>?_⟩
 ·have hcd:c=45∨lQ c:=by
   unfold iH at h2
   split at h2
   ·rename_i hh
    cases hl:t.data.toList with
    | nil=>rw [hl] at hc;cases hc
    | cons x xs =>
     rw [hl] at hc hh h2
     rcases List.mem_cons.1 hc with rfl|hc
     ·exact .inl (Option.some.inj hh)
     ·exact .inr (h2 c hc)
   ·exact .inr (h2 c hc)
  rcases hcd with rfl|hd
  ·decide
  ·have:=(VY c).1 hd
   omega
 ·have:=(Ac t).2 (O5.1 e)
  rw [this] at h1
  exact h1 rfl
theorem asI {c:Int} {t:ByteArray} (h:qo c t):gd t:=by
 unfold qo Dr at h
 rcases h with ⟨e,h⟩ | ⟨e,h,a,b⟩ | ⟨e,h,a,b⟩ | ⟨e,⟨h,a,b⟩,_⟩ | ⟨e,h,a,b⟩ | ⟨e,h,g⟩
 ·refine ⟨⟨by have:=h.2.1;omega,fun i h0 hlt=>?_⟩,fun e=>?_⟩
  ·rcases h.2.2.2 i h0 hlt with g|g|g <;> omega
  ·have:=O5.1 e
   have:=h.1
   omega
 ·exact Wj h (by omega) (by omega)
 ·exact Wj h (by omega) (by omega)
 ·exact Wj h (by omega) (by omega)
 ·exact Wj h (by omega) (by omega)
 ·exact ⟨g,h⟩
theorem Xk {pre all:List UInt8} {ps:List ByteArray} (h:LF pre all ps):∀ t ∈ ps,gd t:=by
 intro t ht
 obtain ⟨j,hj,rfl⟩:=List.mem_iff_getElem.1 ht
 have hja:j<all.length:=by have:=h.2.1;omega
 exact asI (h.2.2 j all[j] ps[j] (List.getElem?_eq_getElem hja) (List.getElem?_eq_getElem hj))
theorem ak3 (p:PP) (hp:vC p) (i:Int) (h0:0≤i) (h:i<((kP p).length:Int)) :
  ∃ b,aa (fun k=>iG.f k (av (kP p) i).f0 (av (kP p) i).f1) b∧(FB p (bO p.kind)→b=true):=by
 have hlen:=Eu p (bO p.kind)
 have tg:kQ p.kind=jq∨kQ p.kind=mF∨kQ p.kind=xV∨kQ p.kind=yS∨kQ p.kind=Ja:=by
  unfold kQ
  repeat' split
  all_goals simp
 change i<((lN p (bO p.kind)).length:Int) at h
 show ∃ b,aa (fun k=>iG.f k (av (lN p (bO p.kind)) i).f0 (av (lN p (bO p.kind)) i).f1) b∧(FB p (bO p.kind)→b=true)
 by_cases c0:i=0
 ·subst c0
  rw [Vk]
  obtain ⟨b,hb,hg⟩:=XI jq (.inl rfl) (fH p) (by unfold fH;split <;> simp) (fun t ht=>by
   obtain ⟨_,hd,hr,ho,_⟩:=hp
   have:=EJ hd
   unfold fH at ht
   split at ht <;> simp at ht
   ·rcases ht with rfl|rfl|rfl <;> assumption
   ·rcases ht with rfl|rfl <;> assumption)
  exact ⟨b,hb,fun fb=>hg (Xk fb.doc)⟩
 ·by_cases c1:i<1+(p.notes.length:Int)
  ·obtain ⟨m,rfl⟩:∃ m:Nat,i=1+(m:Int):=⟨(i - 1).toNat,by omega⟩
   have hm:m<p.notes.length:=by omega
   rw [aaw p _ m hm]
   obtain ⟨b,hb,hg⟩:=XI mF (.inr (.inl rfl)) [p.notes[m]] (by simp) (fun t ht=>by simp at ht;rw [ht];exact hp.2.2.2.2.1 _ (List.getElem_mem hm))
   exact ⟨b,hb,fun fb=>hg (fun t ht=>by simp at ht;rw [ht];exact ⟨(fb.note _ (List.getElem_mem hm)).2,(fb.note _ (List.getElem_mem hm)).1⟩)⟩
  ·obtain ⟨m,rfl⟩:∃ m:Nat,i=1+(p.notes.length:Int)+(m:Int):=⟨(i - 1 - (p.notes.length:Int)).toNat,by omega⟩
   have hm:m<p.lines.length:=by omega
   rw [aav p _ m hm]
   obtain ⟨b,hb,hg⟩:=XI (kQ p.kind) tg (bO p.kind p.lines[m]) (by have:=Sy p.kind p.lines[m];omega) (Xl (adw hp m hm))
   exact ⟨b,hb,fun fb=>hg (Xk (fb.line _ (List.getElem_mem hm)))⟩
def Vf (p:PP):Prop:=I4 p∧∀ i:Int,0≤i→i<(p.lines.length:Int)→¬ AU p.kind (p.lines.map (fM p.kind)) i
theorem ak8 (p:PP) (hp:vC p) (hn:p.notes.length≤40) (hl:p.lines.length≤20) (t:Int × Int × Int) (ht:aa (fun k=>dP.f k p.kind (kP p)) t) :
  (t.2.2≠0→aa (fun k=>jA.j0 k false p.kind p.ref p.oth p.day p.notes p.lines) false) ∧
  (t.2.2=0→vz p.kind→FB p (bO p.kind)→aa (fun k=>jA.j0 k false p.kind p.ref p.oth p.day p.notes p.lines) (B (Vf p))):=by
 have hb:=agA p hp hn hl
 have hlen:(kP p).length=1+p.notes.length+p.lines.length:=Eu p (bO p.kind)
 have L:∀ q:Prop,aa (fun k=>jA.l0 (k+1) (kP p) ((kP p).length:Int) p.kind p.ref p.oth p.day p.notes p.lines) (B q) →
   aa (fun k=>jA.j0 k false p.kind p.ref p.oth p.day p.notes p.lines) (B ((∀ i:Int,0≤i→i<((kP p).length:Int)→aa (fun k=>iG.f k (av (kP p) i).f0 (av (kP p) i).f1) true)∧q)):=by
  intro q hq
  apply aa.succ
  simp only [jA.j0]
  refine aa.neg (by simp) (aa.bind hb ?_)
  refine FP ((kP p).length:Int) (by omega) (fun i=>aa (fun k=>iG.f k (av (kP p) i).f0 (av (kP p) i).f1) true) q (fun k i=>jA.l0 k (kP p) i p.kind p.ref p.oth p.day p.notes p.lines) ?_ hq
  intro i h0 hlt
  have hw:wrap64 (i+1)=i+1:=dN (by omega) (by omega)
  obtain ⟨b,hb,_⟩:=ak3 p hp i h0 hlt
  simp only [jA.l0,hw]
  refine ⟨fun hk r hr=>aa.pos hlt (aa.pos h0 (aa.bind hk (aa.pos rfl hr))),fun hk=>?_⟩
  have hf:b=false:=by
   cases b
   ·rfl
   ·exact absurd hb hk
  rw [hf] at hb
  exact aa.pos hlt (aa.pos h0 (aa.bind hb (aa.neg (by simp) (aa.pure _))))
 refine ⟨fun h=>?_,fun h hk fb=>?_⟩
 ·refine (L False ?_).same (fK (fun x=>x.2))
  simp only [jA.l0]
  rw [fK (fun x=>x)]
  have e:aa (fun k=>bK.f k p.kind (kP p)) ((0,iF,iF,0,([]:List ByteArray),([]:List LN),t.1,t.2.2):RT):=by
   unfold bK.f
   exact aa.bind ht (aa.neg h (aa.pure _))
  exact aa.neg (by omega) (aa.bind e (aa.neg h (aa.pure _)))
 ·refine (L (Vf p) ?_).same (jB ⟨fun x=>x.2,fun x=>⟨fun i h0 hlt=>?_,x⟩⟩)
  ·simp only [jA.l0]
   refine aa.neg (by omega) ?_
   obtain ⟨r,hr,hc⟩:=avZ p hk hp fb t ht h
   refine aa.bind hr ?_
   rcases hc with ⟨h1,rfl⟩ | ⟨⟨i,a,b,c⟩,h2⟩
   ·exact aa.pos rfl (aa.bind (awC p (by omega) (by omega)) ((aa.pure _).same (jB ⟨fun x=>⟨x,h1⟩,fun x=>x.1⟩)))
   ·exact aa.neg h2 ((aa.pure _).same (fK (fun x=>x.2 i a b c)).symm)
  ·obtain ⟨b,hb,hg⟩:=ak3 p hp i h0 hlt
   rw [hg fb] at hb
   exact hb
theorem ap8 (p:PP):Ve p ↔ Vf p:=by
 unfold Ve Vf
 refine and_congr_right fun h=>?_
 have e:p.lines.map (fM p.kind)=p.lines:=by
  rw [List.map_congr_left h.2,List.map_id']
 rw [e]
 exact (aqb p.kind p.lines).symm
theorem awG (p:PP) (h:∀ b,p.notes.length≤40→p.lines.length≤20→aa (fun k=>jA.j0 k false p.kind p.ref p.oth p.day p.notes p.lines) b→b=false) (g:p.notes.length≤40→p.lines.length≤20→∃ b,aa (fun k=>jA.j0 k false p.kind p.ref p.oth p.day p.notes p.lines) b):aa (fun k=>jA.f k p.kind p.ref p.oth p.day p.notes p.lines) false:=by
 have T:aa (fun k=>jA.j0 k true p.kind p.ref p.oth p.day p.notes p.lines) false:=by
  apply aa.succ
  simp only [jA.j0]
  exact aa.pos trivial (aa.pure _)
 unfold jA.f
 refine aa.ite (fun _=>T) (fun h1=>?_)
 by_cases c:(p.lines.length:Int)>20
 ·rw [decide_eq_true c];exact T
 ·rw [decide_eq_false c]
  obtain ⟨b,hb⟩:=g (by omega) (by omega)
  have:=h b (by omega) (by omega) hb
  rwa [this] at hb
theorem awy (p : PP) (hp : vC p) : ∃ b, aa (fun k => jD.f k p.kind p.ref p.oth p.day p.notes p.lines) b ∧ aa (fun k => jA.f k p.kind p.ref p.oth p.day p.notes p.lines) b ∧ (b = true → vz p.kind ∧ p.notes.length ≤ 2 ∧ p.lines.length ≤ 20 ∧ xC p = kP p ∧ FB p (bO p.kind)) := by
  have TI : aa (fun k => jD.j0 k true p.kind p.ref p.oth p.day p.notes p.lines) false := by
    apply aa.succ
    simp only [jD.j0]
    exact aa.pos trivial (aa.pure _)
  have fewS : p.notes.length ≤ 40 → p.lines.length ≤ 20 → H7 (kP p) := fun hn hl => ahw p hp hn hl (bO p.kind) (fun l h => ⟨Sy _ l, Xl h⟩)
  have fewI' : p.notes.length ≤ 40 → p.lines.length ≤ 20 → H7 (xC p) := fun hn hl => ahw p hp hn hl (lT p.kind) (fun l h => ⟨acZ _ l, akE h⟩)
  -- the reference says no where no table of its body can fit
  have SN : (p.notes.length ≤ 40 → p.lines.length ≤ 20 → ¬ (tab p.kind ≠ [] ∧ Fits (kP p) (tab p.kind) 0)) → aa (fun k => jA.f k p.kind p.ref p.oth p.day p.notes p.lines) false := fun h => by
    have key : p.notes.length ≤ 40 → p.lines.length ≤ 20 → aa (fun k => jA.j0 k false p.kind p.ref p.oth p.day p.notes p.lines) false := fun hn hl => by
      obtain ⟨r, hs, _, hf⟩ := adL p.kind (kP p) (fewS hn hl)
      exact (ak8 p hp hn hl r hs).1 (fun e => h hn hl ⟨(hf e).1, (hf e).2.2⟩)
    exact awG p (fun b hn hl hb => PI hb (key hn hl)) (fun hn hl => ⟨false, key hn hl⟩)
  unfold jD.f
  simp only [yX, Option.bind_some]
  by_cases hk : 1 ≤ p.kind ∧ p.kind ≤ 7
  rotate_left
  · refine ⟨false, ?_, SN (fun hn hl x => x.1 ?_), fun e => nomatch e⟩
    · rw [fK hk]
      exact aa.neg (by simp) TI
    · rcases kinds p.kind with h | ⟨_, h⟩
      · omega
      · exact h
  rw [fC hk]
  by_cases hn2 : (p.notes.length : Int) > 2
  · refine ⟨false, aa.pos rfl (aa.pos hn2 TI), SN (fun hn hl x => ?_), fun e => nomatch e⟩
    have := (V9 p hk (bO p.kind) (fewS hn hl) x.2).notes
    omega
  by_cases abp : (p.lines.length : Int) > 20
  · refine ⟨false, aa.pos rfl (aa.neg hn2 (by rw [decide_eq_true abp]; exact TI)), SN (fun hn hl x => by omega), fun e => nomatch e⟩
  rw [decide_eq_false abp]
  have I : ∀ b, aa (fun k => jD.j0 k false p.kind p.ref p.oth p.day p.notes p.lines) b → aa (fun k => if true = true then (if (p.notes.length : Int) > 2 then (jD.j0 k true p.kind p.ref p.oth p.day p.notes p.lines) else (jD.j0 k false p.kind p.ref p.oth p.day p.notes p.lines)) else (jD.j0 k true p.kind p.ref p.oth p.day p.notes p.lines)) b := fun b h => aa.pos rfl (aa.neg hn2 h)
  have S : ∀ b, aa (fun k => jA.j0 k false p.kind p.ref p.oth p.day p.notes p.lines) b → aa (fun k => jA.f k p.kind p.ref p.oth p.day p.notes p.lines) b := fun b h => by
    unfold jA.f
    rw [decide_eq_false abp]
    exact aa.neg (by omega) h
  have hn : p.notes.length ≤ 40 := by omega
  have hl : p.lines.length ≤ 20 := by omega
  by_cases he : ∀ l ∈ p.lines, lT p.kind l = bO p.kind l
  · have eb : xC p = kP p := by
      unfold xC kP
      have : p.lines.map (fun l => sg (kQ p.kind) (lT p.kind l)) = p.lines.map (fun l => sg (kQ p.kind) (bO p.kind l)) := List.map_congr_left (fun l h => by rw [he l h])
      rw [this]
    obtain ⟨r, hs, hi, hf⟩ := adL p.kind (kP p) (fewS hn hl)
    rw [← eb] at hi
    have HI := aj8 p hk hp (by omega) hl r hi
    have HS := ak8 p hp hn hl r hs
    by_cases c : r.2.2 = 0
    · obtain ⟨_, _, hfit⟩ := hf c
      have fS := V9 p hk (bO p.kind) (fewS hn hl) hfit
      have fI : FB p (lT p.kind) := ⟨fS.notes, fS.lines, fS.doc, fS.note, fun l h => by rw [he l h]; exact fS.line l h⟩
      refine ⟨B (Ve p), I _ (HI.2 c fI), S _ ?_, fun _ => ⟨hk, by omega, hl, eb, fS⟩⟩
      rw [jB (ap8 p)]
      exact HS.2 c hk fS
    · exact ⟨false, I _ (HI.1 c), S _ (HS.1 c), fun e => nomatch e⟩
  · have h3 : p.kind = 3 := by
      rcases Int.decEq p.kind 3 with g | g
      · exact absurd (fun l _ => by unfold lT; rw [if_neg g]) he
      · exact g
    have hex : ∃ l ∈ p.lines, ¬ l.f4.toList = ([] : List UInt8) := by
      rcases Classical.em (∃ l ∈ p.lines, ¬ l.f4.toList = ([] : List UInt8)) with g | g
      · exact g
      · refine absurd (fun l hm => ?_) he
        have : l.f4.toList = ([] : List UInt8) := Classical.byContradiction fun x => g ⟨l, hm, x⟩
        unfold lT bO mX
        rw [h3, this]
        simp
    obtain ⟨l, hm, hne⟩ := hex
    have sN := SN (fun hn hl x => by
      have fS := V9 p hk (bO p.kind) (fewS hn hl) x.2
      have := (fS.line l hm).2.1
      unfold bO mX rZ yN at this
      rw [h3] at this
      simp [hne] at this)
    refine ⟨false, ?_, sN, fun e => nomatch e⟩
    obtain ⟨r, _, hi, hf⟩ := adL p.kind (xC p) (fewI' hn hl)
    have HI := aj8 p hk hp (by omega) hl r hi
    by_cases c : r.2.2 = 0
    · obtain ⟨_, _, hfit⟩ := hf c
      have fI := V9 p hk (lT p.kind) (fewI' hn hl) hfit
      refine I _ ((HI.2 c fI).same (fK (fun x => hne ?_)))
      have := x.1.2 l hm
      rw [← this, h3]
      exact O5.2 rfl
    · exact I _ (HI.1 c)
end Go.Proofs.YtapilmimgiaglaaGreatDoor.QA
namespace Go.Proofs.YtapilmimgiaglaaGreatDoor.QA
open Go.RowKit Go.Proofs.bB.fA Go.Proofs.YtapilmimgiaglaaGreatDoor.Ev0 Go.Proofs.YtapilmimgiaglaaGreatDoor.Num
theorem Sr {x:Int} (h:(Rd.Cs .i64) x):i64 x:=by
 have h':(Lit.int .i64 x).wf=true:=h
 simp only [Lit.wf,Bool.and_eq_true,decide_eq_true_eq] at h'
 exact ⟨h'.1,h'.2⟩
def ML (x:lL):Prop:=i64 x.f0∧(x.f1.size:Int)≤9223372036854775807∧i64 x.f2∧i64 x.f3∧(x.f4.size:Int)≤9223372036854775807
theorem avJ {x:lL} (h:adP x):ML x:=by
 obtain ⟨h0,h1,h2,h3,h4⟩:=h
 have g1:x.f1.size≤2 ^ 63 - 1:=h1
 have g4:x.f4.size≤2 ^ 63 - 1:=h4
 exact ⟨Sr h0,by omega,Sr h2,Sr h3,by omega⟩
def MX (x:lL):Prop:=x.f1.size≤1048576∧x.f4.size≤1048576
theorem awM (x:lL) (hx:ML x) (left:Int) (h0:0≤left) (h1:left≤1048576):Es (fun _=>IW.f x.f0 x.f1 x.f2 x.f3 x.f4 left) left (MX x):=by
 obtain ⟨_,ha,_,_,hb⟩:=hx
 unfold IW.f
 rw [JS h0 h1 (by omega) ha]
 by_cases g:left - (x.f1.size:Int)<0
 ·exact ⟨-1,aa.pos g (aa.pure _),.inl (by decide)⟩
 ·rw [JS (by omega) (by omega) (by omega) hb]
  by_cases g2:left - (x.f1.size:Int) - (x.f4.size:Int)<0
  ·exact ⟨-1,aa.neg g (aa.pos g2 (aa.pure _)),.inl (by decide)⟩
  ·exact ⟨_,aa.neg g (aa.neg g2 (aa.pure _)),.inr ⟨by omega,by omega,by unfold MX;omega⟩⟩
theorem awL (l:List lL) (hl:l.length≤9223372036854775807) (hx:∀ x ∈ l,ML x) (left:Int) (h0:0≤left) (h1:left≤1048576):Es (fun k=>uz.f k l left) left (l.length≤1048576∧∀ x ∈ l,MX x):=by
 have key:=ady l.length hl (fun i=>MX (ma l i)) (fun k=>uz.f k l left) (fun k s i=>uz.l0 k l s i) left h0 h1 (fun k=>rfl) ?_ ?_
 ·obtain ⟨t,ht,h⟩:=key
  exact ⟨t,ht,h.imp id (fun ⟨g0,g1,g2,g3⟩=>⟨g0,g1,g2,Vg l z127 MX g3⟩)⟩
 ·intro s i h0 hlt hs0 hs1
  have hw:wrap64 (i+1)=i+1:=dN (by omega) (by omega)
  have hk:ML (ma l i):=by
   unfold ma
   rw [getD_at l _ _ (by omega)]
   exact hx _ (List.getElem_mem _)
  obtain ⟨t,ht,h2⟩:=awM _ hk s hs0 hs1
  simp only [uz.l0,hw]
  rcases h2 with h2 | ⟨h2,h3,h4⟩
  ·exact .inl ⟨-1,by decide,aa.pos hlt (aa.pos h0 (aa.bind ht (aa.pos h2 (aa.pure _))))⟩
  ·exact .inr ⟨t,h2,h3,h4,fun r hr=>aa.pos hlt (aa.pos h0 (aa.bind ht (aa.neg (by omega) hr)))⟩
 ·intro s i hi
  simp only [uz.l0]
  exact aa.neg (by omega) (aa.pure _)
theorem awO (kind:Int) (ref oth:ByteArray) (day:Int) (notes:List ByteArray) (lines:List lL) (hr:(ref.size:Int)≤9223372036854775807) (ho:(oth.size:Int)≤9223372036854775807) (hn:okT notes) (hl:lines.length≤9223372036854775807) (hx:∀ x ∈ lines,ML x) (left:Int) (h0:0≤left) (h1:left≤1048576) :
  Es (fun k=>FI.f k kind ref oth day notes lines left) left (ref.size≤1048576∧oth.size≤1048576∧V7 notes∧lines.length≤1048576∧∀ x ∈ lines,MX x):=by
 unfold FI.f
 rw [JS h0 h1 (by omega) hr]
 by_cases g:left - (ref.size:Int)<0
 ·exact ⟨-1,aa.pos g (aa.pure _),.inl (by decide)⟩
 rw [JS (by omega) (by omega) (by omega) ho]
 by_cases g2:left - (ref.size:Int) - (oth.size:Int)<0
 ·exact ⟨-1,aa.neg g (aa.pos g2 (aa.pure _)),.inl (by decide)⟩
 obtain ⟨t,ht,h2⟩:=awR notes hn (left - (ref.size:Int) - (oth.size:Int)) (by omega) (by omega)
 rcases h2 with h2 | ⟨h2,h3,h4⟩
 ·exact ⟨-1,aa.neg g (aa.neg g2 (aa.bind ht (aa.pos h2 (aa.pure _)))),.inl (by decide)⟩
 obtain ⟨u,hu,h5⟩:=awL lines hl hx t h2 (by omega)
 rcases h5 with h5 | ⟨h5,h6,h7,h8⟩
 ·exact ⟨-1,aa.neg g (aa.neg g2 (aa.bind ht (aa.neg (by omega) (aa.bind hu (aa.pos h5 (aa.pure _)))))),.inl (by decide)⟩
 ·exact ⟨u,aa.neg g (aa.neg g2 (aa.bind ht (aa.neg (by omega) (aa.bind hu (aa.neg (by omega) (aa.pure _)))))),.inr ⟨h5,by omega,by omega,by omega,h4,h7,h8⟩⟩
def Pt (x:lL):aY:=⟨x.f0,x.f1,x.f2,x.f3,x.f4⟩
theorem ayR (l:List lL) (hl:l.length≤1048576):aa (fun k=>uC.f k l) (l.map Pt):=by
 unfold uC.f
 refine aa.pos (by omega) (aa.pos (by omega) ?_)
 rw [Int.toNat_natCast]
 refine aa9 l z127 D9 Pt (fun k acc i=>uC.l0 k l acc i) ?_ ?_
 ·intro acc i h0 hlt ha r hr
  have hw:wrap64 (i+1)=i+1:=dN (by omega) (by omega)
  simp only [uC.l0,MH.f,Option.bind_some,hw]
  exact aa.pos hlt (aa.pos h0 (aa.pos (by omega) hr))
 ·intro acc i hi
  simp only [uC.l0]
  exact aa.neg (by omega) (aa.pure _)
theorem ayS (kind:Int) (ref oth:ByteArray) (day:Int) (notes:List ByteArray) (lines:List lL) (hn:notes.length≤1048576) (hl:lines.length≤1048576):aa (fun k=>IY.f k kind ref oth day notes lines) (kind,ref,oth,day,notes,lines.map Pt):=by
 unfold IY.f
 exact aa.bind (ayU notes hn) (aa.bind (ayR lines hl) (aa.pure _))
theorem asr (a:Int) (b:ByteArray) (c d:Int) (e:ByteArray):IV.f a b c d e a b c d e=some true:=by
 simp only [IV.f,if_true]
theorem asq (l:List aY) (hl:l.length≤9000000):aa (fun k=>uw.f k l l) true:=by
 unfold uw.f
 refine aa.pos rfl (G6 (l.length:Int) (by omega) (fun k i=>uw.l0 k l l i) ?_ ?_)
 ·intro i h0 hlt ih
  have hw:wrap64 (i+1)=i+1:=dN (by omega) (by omega)
  simp only [uw.l0,asr,Option.bind_some,hw]
  exact aa.pos hlt (aa.pos h0 (aa.pos hlt (aa.pos (by simp) ih)))
 ·simp only [uw.l0]
  exact aa.neg (by omega) (aa.pure _)
theorem ass (kind:Int) (ref oth:ByteArray) (day:Int) (notes:List ByteArray) (lines:List aY) (hn:notes.length≤9000000) (hl:lines.length≤9000000):aa (fun k=>FE.f k kind ref oth day notes lines kind ref oth day notes lines) true:=by
 unfold FE.f
 exact aa.pos rfl (aa.pos rfl (aa.pos rfl (aa.pos rfl (aa.bind (asu notes hn) (aa.pos rfl (aa.bind (asq lines hl) (aa.pos rfl (aa.pure _))))))))
end Go.Proofs.YtapilmimgiaglaaGreatDoor.QA
namespace Go.Proofs.YtapilmimgiaglaaGreatDoor.QA
open Go.RowKit Go.Proofs.bB.fA Go.Proofs.YtapilmimgiaglaaGreatDoor.Ev0 Go.Proofs.YtapilmimgiaglaaGreatDoor.Num
def xI (x:lM):gN:=⟨x.f0,x.f1,x.f2,x.f3,x.f4,x.f5.map Pt⟩
def FR (x:lM):Prop:=x.f4.length≤1048576∧x.f5.length≤1048576∧vC ⟨x.f0,x.f1,x.f2,x.f3,x.f4,x.f5.map Pt⟩
theorem awN (x:lM) (hx:JR x) (left:Int) (h0:0≤left) (h1:left≤1048576):Es (fun k=>FI.f k x.f0 x.f1 x.f2 x.f3 x.f4 x.f5 left) left (FR x):=by
 obtain ⟨w0,w1,w2,w3,w4,w5⟩:=hx
 have a1:x.f1.size≤2 ^ 63 - 1:=w1
 have a2:x.f2.size≤2 ^ 63 - 1:=w2
 have a4:x.f4.length≤2 ^ 63 - 1:=w4.1
 have a5:x.f5.length≤2 ^ 63 - 1:=w5.1
 have hx:∀ y ∈ x.f5,ML y:=fun y h=>avJ (w5.2 y h)
 have hn:okT x.f4:=⟨by omega,fun y h=>by have g:y.size≤2 ^ 63 - 1:=w4.2 y h;omega⟩
 obtain ⟨t,ht,h⟩:=awO x.f0 x.f1 x.f2 x.f3 x.f4 x.f5 (by omega) (by omega) hn (by omega) hx left h0 h1
 refine ⟨t,ht,h.imp id (fun ⟨g0,g00,g1,g2,g3,g4,g5⟩=>⟨g0,g00,g3.1,g4,Sr w0,Sr w3,g1,g2,g3.2,fun l hl=>?_⟩)⟩
 obtain ⟨y,hy,rfl⟩:=List.mem_map.1 hl
 have k:=hx y hy
 exact ⟨⟨k.1,k.2.2.1,k.2.2.2.1⟩,(g5 y hy).1,(g5 y hy).2⟩
theorem awQ (l:List lM) (hl:l.length≤9223372036854775807) (hx:∀ x ∈ l,JR x) (left:Int) (h0:0≤left) (h1:left≤1048576):Es (fun k=>uA.f k l left) left (l.length≤1048576∧∀ x ∈ l,FR x):=by
 have key:=ady l.length hl (fun i=>FR (jo l i)) (fun k=>uA.f k l left) (fun k s i=>uA.l0 k l s i) left h0 h1 (fun k=>rfl) ?_ ?_
 ·obtain ⟨t,ht,h⟩:=key
  exact ⟨t,ht,h.imp id (fun ⟨g0,g1,g2,g3⟩=>⟨g0,g1,g2,Vg l z56 FR g3⟩)⟩
 ·intro s i h0 hlt hs0 hs1
  have hw:wrap64 (i+1)=i+1:=dN (by omega) (by omega)
  have hk:JR (jo l i):=by
   unfold jo
   rw [getD_at l _ _ (by omega)]
   exact hx _ (List.getElem_mem _)
  obtain ⟨t,ht,h2⟩:=awN _ hk s hs0 hs1
  simp only [uA.l0,hw]
  rcases h2 with h2 | ⟨h2,h3,h4⟩
  ·exact .inl ⟨-1,by decide,aa.pos hlt (aa.pos h0 (aa.bind ht (aa.pos h2 (aa.pure _))))⟩
  ·exact .inr ⟨t,h2,h3,h4,fun r hr=>aa.pos hlt (aa.pos h0 (aa.bind ht (aa.neg (by omega) hr)))⟩
 ·intro s i hi
  simp only [uA.l0]
  exact aa.neg (by omega) (aa.pure _)
theorem awP (s q:ByteArray) (n:Int) (l:List lM) (hs:s.size≤9223372036854775807) (hq:q.size≤9223372036854775807) (hl:l.length≤9223372036854775807) (hx:∀ x ∈ l,JR x):Es (fun k=>IX.f k s q n l 1048576) 1048576 (s.size≤1048576∧q.size≤1048576∧l.length≤1048576∧∀ x ∈ l,FR x):=by
 unfold IX.f
 rw [JS (by omega) (by omega) (by omega) (by omega)]
 by_cases g:1048576 - (s.size:Int)<0
 ·exact ⟨-1,aa.pos g (aa.pure _),.inl (by decide)⟩
 rw [JS (by omega) (by omega) (by omega) (by omega)]
 by_cases g2:1048576 - (s.size:Int) - (q.size:Int)<0
 ·exact ⟨-1,aa.neg g (aa.pos g2 (aa.pure _)),.inl (by decide)⟩
 obtain ⟨t,ht,h2⟩:=awQ l hl hx (1048576 - (s.size:Int) - (q.size:Int)) (by omega) (by omega)
 rcases h2 with h2 | ⟨h2,h3,h4,h5⟩
 ·exact ⟨-1,aa.neg g (aa.neg g2 (aa.bind ht (aa.pos h2 (aa.pure _)))),.inl (by decide)⟩
 ·exact ⟨t,aa.neg g (aa.neg g2 (aa.bind ht (aa.neg (by omega) (aa.pure _)))),.inr ⟨h2,by omega,by omega,by omega,h4,h5⟩⟩
theorem ayT (l:List lM) (hl:l.length≤1048576) (hx:∀ x ∈ l,FR x):aa (fun k=>rX.f k l) (l.map xI):=by
 unfold rX.f
 refine aa.pos (by omega) (aa.pos (by omega) ?_)
 rw [Int.toNat_natCast]
 refine aa9 l z56 z45 xI (fun k acc i=>rX.l0 k l acc i) ?_ ?_
 ·intro acc i h0 hlt ha r hr
  have hw:wrap64 (i+1)=i+1:=dN (by omega) (by omega)
  have hk:FR (jo l i):=by
   unfold jo
   rw [getD_at l _ _ (by omega)]
   exact hx _ (List.getElem_mem _)
  simp only [rX.l0,hw]
  exact aa.pos hlt (aa.pos h0 (aa.bind (ayS _ _ _ _ _ _ hk.1 hk.2.1) (aa.pos (by omega) hr)))
 ·intro acc i hi
  simp only [rX.l0]
  exact aa.neg (by omega) (aa.pure _)
theorem ast (l:List lM) (hl:l.length≤1048576) (hx:∀ x ∈ l,FR x):aa (fun k=>mE.f k (l.map xI) (l.map xI)) true:=by
 unfold mE.f
 have e:((l.map xI).length:Int)=(l.length:Int):=by simp
 have hx':∀ x ∈ l.map xI,x.f4.length≤9000000∧x.f5.length≤9000000:=fun x m=>by
  obtain ⟨y,hy,rfl⟩:=List.mem_map.1 m
  have:=hx y hy
  exact ⟨by have:=this.1;simp only [xI];omega,by have:=this.2.1;simp [xI];omega⟩
 generalize l.map xI=L at e hx' ⊢
 refine aa.pos rfl (G6 (L.length:Int) (by omega) (fun k i=>mE.l0 k L L i) ?_ ?_)
 ·intro i h0 hlt ih
  have hw:wrap64 (i+1)=i+1:=dN (by omega) (by omega)
  have hk:(aG L i).f4.length≤9000000∧(aG L i).f5.length≤9000000:=by
   unfold aG
   rw [getD_at L _ _ (by omega)]
   exact hx' _ (List.getElem_mem _)
  simp only [mE.l0,hw]
  exact aa.pos hlt (aa.pos h0 (aa.pos hlt (aa.bind (ass _ _ _ _ _ _ hk.1 hk.2) (aa.pos rfl ih))))
 ·simp only [mE.l0]
  exact aa.neg (by omega) (aa.pure _)
end Go.Proofs.YtapilmimgiaglaaGreatDoor.QA
