-- Merged by a program of this session (wip/tool/pack.py) out of its own texts for this claim.
import Derived.Test.YtomoflpgdbjojaaGreatKFnExactGateNext23
namespace Go.Proofs.YtomoflpgdbjojaaGreat.QN
open Go.RowKit Go.Proofs.YtomoflpgdbjojaaGreat Go.Proofs.YtomoflpgdbjojaaGreatW.PrintWords Go.Proofs.YtomoflpgdbjojaaGreat.Ev0
theorem first_of (p:Int→Prop) (n:Int) (h:∃ j,0≤j∧j<n∧p j):∃ j,0≤j∧j<n∧p j∧∀ i,0≤i→i<j→¬ p i:=by
 have key:∀ d:Nat,∀ j:Int,0≤j→j<n→p j→j.toNat≤d→∃ j,0≤j∧j<n∧p j∧∀ i,0≤i→i<j→¬ p i:=by
  intro d
  induction d with
  | zero=>intro j h0 h1 hp hd;exact ⟨j,h0,h1,hp,fun i hi hj=>by omega⟩
  | succ d ih =>
   intro j h0 h1 hp hd
   by_cases h:∃ i,0≤i∧i<j∧p i
   ·obtain ⟨i,a,b,c⟩:=h
    exact ih i a (by omega) c (by omega)
   ·exact ⟨j,h0,h1,hp,fun i a b c=>h ⟨i,a,b,c⟩⟩
 obtain ⟨j,h0,h1,hp⟩:=h
 exact key j.toNat j h0 h1 hp (Nat.le_refl _)
def xbefore (a b a' b':ByteArray):Prop:=less a a'∨(a.toList=a'.toList∧less b b')
theorem l08Before_ev (a b c a' b' c':ByteArray):spec_l08Before.f a b c a' b' c'=some (B (xbefore a b a' b')):=by
 unfold spec_l08Before.f xbefore
 rcases cmpS_cases a a' with ⟨h1,h2,h3,_⟩ | ⟨h1,h2,h3,_⟩ | ⟨h1,h2,h3,_⟩
 ·rw [if_pos (show Op.bytesLess a.toList a'.toList=true from h1),B_true (.inl h1)]
 ·rw [if_neg (show ¬ Op.bytesLess a.toList a'.toList=true from h1),if_neg h3,B_false (fun h=>h.elim h1 (fun h=>h3 h.1))]
 ·rw [if_neg (show ¬ Op.bytesLess a.toList a'.toList=true from h1),if_pos h3]
  exact congrArg some (bool_B ⟨fun h=>.inr ⟨h3,h⟩,fun h=>h.elim (fun h=>absurd h h1) (fun h=>h.2)⟩)
noncomputable def xcmp (a b a' b':ByteArray):Int:=orL [cmpS a a',cmpS b b']
theorem crossOrder_ev (a b c a' b' c':ByteArray):Evt (fun k=>impl_crossOrder.f k a b c a' b' c') (xcmp a b a' b'):=by
 unfold impl_crossOrder.f
 simp only [cmpS_ev,Option.bind_some]
 exact Evt.bind (or_ev _ (by simp)) (Evt.pure _)
theorem xcmp_iff (a b a' b':ByteArray):xcmp a b a' b'≥0 ↔ ¬ xbefore a b a' b':=by
 unfold xcmp xbefore
 rcases cmpS_cases a a' with ⟨h1,h2,h3,h4⟩ | ⟨h1,h2,h3,h4⟩ | ⟨h1,h2,h3,h4⟩
 ·simp [orL,h4,h1]
 ·simp [orL,h4,h1,h3]
 ·rcases cmpS_cases b b' with ⟨e1,e2,e3,e4⟩ | ⟨e1,e2,e3,e4⟩ | ⟨e1,e2,e3,e4⟩
  ·simp [orL,h4,h1,h3,e1,e4]
  ·simp [orL,h4,h1,e1,e4]
  ·simp [orL,h4,h1,e1,e4]
def okX (x:S114):Prop:=(x.f0.size:Int)≤9223372036854775807∧(x.f1.size:Int)≤9223372036854775807∧(x.f2.size:Int)≤9223372036854775807
def dupAt (l:List S114) (a c:ByteArray) (j:Int):Prop:=(rd_T114 l j).f0.toList=a.toList∧(rd_T114 l j).f2.toList=c.toList
def crossAt (l:List S114) (i:Int):Prop :=
 (nameB (rd_T114 l i).f0=true∧nameB (rd_T114 l i).f1=true∧nameB (rd_T114 l i).f2=true ∧
  (0<i→xbefore (rd_T114 l (i - 1)).f0 (rd_T114 l (i - 1)).f1 (rd_T114 l i).f0 (rd_T114 l i).f1)) ∧
  ∀ j,0≤j→j<i→¬ dupAt l (rd_T114 l i).f0 (rd_T114 l i).f2 j
def CrossP (l:List S114):Prop:=(l.length:Int)≤200∧∀ i,0≤i→i<(l.length:Int)→crossAt l i
noncomputable def crossB (l:List S114):Bool:=B (CrossP l)
theorem okX_at {l:List S114} (h:∀ x ∈ l,okX x) (i:Int) (h1:i<(l.length:Int)) (h0:0≤i):okX (rd_T114 l i):=by
 unfold rd_T114
 rw [getD_at l _ _ (by omega)]
 exact h _ (List.getElem_mem _)
theorem specIn_ok (l:List S114) (i:Int) (a b c:ByteArray) (h0:0≤i) (hlt:i<(l.length:Int)) (hl:(l.length:Int)≤200) (hn:∀ j,0≤j→j<i→¬ dupAt l a c j) (r:Bool) (hr:Evt (fun k=>spec_CrossRight.l0 k l (i+1)) r) :
  Evt (fun k=>spec_CrossRight.l1 k l i 0 a b c) r:=by
 have hw0:wrap64 (i+1)=i+1:=w64 (by omega) (by omega)
 refine up_loop i (fun k (_:Unit) j=>spec_CrossRight.l1 k l i j a b c) (fun _=>()) (fun _=>r) ?_ ?_ 0 (Int.le_refl _) h0
 ·intro j g0 g1 ih
  have hw:wrap64 (j+1)=j+1:=w64 (by omega) (by omega)
  simp only [spec_CrossRight.l1,hw]
  exact Evt.pos g1 (Evt.pos g0 (Evt.pos (by omega) (Evt.ite (fun e1=>Evt.ite (fun e2=>absurd ⟨e1,e2⟩ (hn j g0 g1)) (fun _=>ih)) (fun _=>ih))))
 ·simp only [spec_CrossRight.l1,hw0]
  exact Evt.neg (by omega) hr
theorem specIn_no (l:List S114) (i:Int) (a b c:ByteArray) (_h0:0≤i) (hlt:i<(l.length:Int)) (hl:(l.length:Int)≤200) (hn:∃ j,0≤j∧j<i∧dupAt l a c j):Evt (fun k=>spec_CrossRight.l1 k l i 0 a b c) false:=by
 obtain ⟨m,m0,m1,mp,mn⟩:=first_of _ _ hn
 refine up_loop m (fun k (_:Unit) j=>spec_CrossRight.l1 k l i j a b c) (fun _=>()) (fun _=>false) ?_ ?_ 0 (Int.le_refl _) m0
 ·intro j g0 g1 ih
  have hw:wrap64 (j+1)=j+1:=w64 (by omega) (by omega)
  simp only [spec_CrossRight.l1,hw]
  exact Evt.pos (by omega) (Evt.pos g0 (Evt.pos (by omega) (Evt.ite (fun e1=>Evt.ite (fun _=>Evt.pure _) (fun _=>ih)) (fun _=>ih))))
 ·simp only [spec_CrossRight.l1]
  exact Evt.pos m1 (Evt.pos m0 (Evt.pos (by omega) (Evt.pos mp.1 (Evt.pos mp.2 (Evt.pure _)))))
theorem specCross_ev (l:List S114) (hs:∀ x ∈ l,okX x):Evt (fun k=>spec_CrossRight.f k l) (crossB l):=by
 unfold spec_CrossRight.f
 by_cases hn:(l.length:Int)>200
 ·exact Evt.pos hn ((Evt.pure false).same (B_false (fun h=>by have:=h.1;omega)).symm)
 ·refine Evt.neg hn ?_
  refine (right_loop (l.length:Int) (by omega) (crossAt l) True (fun k i=>spec_CrossRight.l0 k l i) ?_ ?_).same (B_congr ⟨fun h=>⟨by omega,h.1⟩,fun h=>⟨h.2,trivial⟩⟩)
  ·intro i h0 hlt
   obtain ⟨k0,k1,k2⟩:=okX_at hs i hlt h0
   have hw1:wrap64 (i - 1)=i - 1:=w64 (by omega) (by omega)
   have bad:Evt (fun k=>spec_CrossRight.j1 k l i true (rd_T114 l i).f0 (rd_T114 l i).f1 (rd_T114 l i).f2) false:=by
    apply Evt.succ
    simp only [spec_CrossRight.j1,if_true]
    exact Evt.pure _
   simp only [spec_CrossRight.l0,hw1,l08Before_ev,Option.bind_some]
   refine ⟨fun ok r hr=>?_,fun nok=>?_⟩
   ·obtain ⟨⟨o1,o2,o3,o4⟩,o5⟩:=ok
    have go:Evt (fun k=>spec_CrossRight.j1 k l i false (rd_T114 l i).f0 (rd_T114 l i).f1 (rd_T114 l i).f2) r:=by
     apply Evt.succ
     simp only [spec_CrossRight.j1,Bool.false_eq_true,if_false]
     exact specIn_ok l i _ _ _ h0 hlt (by omega) o5 r hr
    refine Evt.pos hlt (Evt.pos h0 (Evt.bind (specName_ev _ k0) (Evt.pos o1 (Evt.bind (specName_ev _ k1) (Evt.pos o2 (Evt.bind (specName_ev _ k2) (Evt.pos o3 (Evt.ite (fun hp=>Evt.pos (by omega) (Evt.pos (by omega) ?_)) (fun _=>go)))))))))
    rw [B_true (o4 hp)]
    exact go
   ·refine Evt.pos hlt (Evt.pos h0 (Evt.bind (specName_ev _ k0) (Evt.ite (fun e1=>Evt.bind (specName_ev _ k1) (Evt.ite (fun e2=>Evt.bind (specName_ev _ k2) (Evt.ite (fun e3=>?_) (fun _=>bad))) (fun _=>bad))) (fun _=>bad))))
    have dup:(0<i→xbefore (rd_T114 l (i - 1)).f0 (rd_T114 l (i - 1)).f1 (rd_T114 l i).f0 (rd_T114 l i).f1)→Evt (fun k=>spec_CrossRight.j1 k l i false (rd_T114 l i).f0 (rd_T114 l i).f1 (rd_T114 l i).f2) false:=fun e4=>by
     apply Evt.succ
     simp only [spec_CrossRight.j1,Bool.false_eq_true,if_false]
     refine specIn_no l i _ _ _ h0 hlt (by omega) (Classical.not_not.1 (fun hno=>nok ⟨⟨e1,e2,e3,e4⟩,fun j g0 g1 gd=>hno ⟨j,g0,g1,gd⟩⟩))
    refine Evt.ite (fun hp=>Evt.pos (by omega) (Evt.pos (by omega) ?_)) (fun hp=>dup (fun h=>absurd h hp))
    by_cases e4:xbefore (rd_T114 l (i - 1)).f0 (rd_T114 l (i - 1)).f1 (rd_T114 l i).f0 (rd_T114 l i).f1
    ·rw [B_true e4]
     exact dup (fun _=>e4)
    ·rw [B_false e4]
     exact bad
  ·simp only [spec_CrossRight.l0]
   exact Evt.neg (by omega) ((Evt.pure true).same (B_true trivial).symm)
theorem crossLit_ev (a b c a' b' c':ByteArray):impl_CrossRight_1.f a b c a' b' c'=some (B (a.toList=a'.toList∧c.toList=c'.toList),a',b',c'):=by
 unfold impl_CrossRight_1.f
 by_cases h:a.toList=a'.toList
 ·rw [if_pos h]
  congr 2
  exact bool_B ⟨fun h2=>⟨h,by simpa using h2⟩,fun h2=>by simpa using h2.2⟩
 ·rw [if_neg h,B_false (fun h2=>h h2.1)]
theorem rd_take (l:List S114) (n:Nat) (j:Int) (h0:0≤j) (h:j<(n:Int)):rd_T114 (l.take n) j=rd_T114 l j:=by
 unfold rd_T114
 rw [List.getD_eq_getElem?_getD,List.getD_eq_getElem?_getD,List.getElem?_take_of_lt (by omega)]
theorem crossIn_ev (l:List S114) (i:Int) (a b c:ByteArray) (h0:0≤i) (hlt:i<(l.length:Int)) (hl:(l.length:Int)≤200) :
  Evt (fun k=>impl_Cross_impl_CrossRight_1_129.f k (l.take i.toNat) a b c) (B (∃ j,0≤j∧j<i∧dupAt l a c j),a,b,c):=by
 unfold impl_Cross_impl_CrossRight_1_129.f
 unfold impl_Cross_impl_CrossRight_1_146.f
 have hlen:((l.take i.toNat).length:Int)=i:=by rw [List.length_take];omega
 rw [hlen]
 by_cases hd:∃ j,0≤j∧j<i∧dupAt l a c j
 ·rw [B_true hd]
  obtain ⟨m,m0,m1,mp,mn⟩:=first_of _ _ hd
  refine Evt.bind (a:=(m,a,b,c)) ?_ ((Evt.pure _).same (by simp;omega))
  refine up_loop m (fun k (_:Unit) j=>impl_Cross_impl_CrossRight_1_146.l0 k (l.take i.toNat) i j a b c) (fun _=>()) (fun _=>(m,a,b,c)) ?_ ?_ 0 (Int.le_refl _) m0
  ·intro j g0 g1 ih
   have hw:wrap64 (j+1)=j+1:=w64 (by omega) (by omega)
   simp only [impl_Cross_impl_CrossRight_1_146.l0,hw,crossLit_ev,Option.bind_some,hlen]
   refine Evt.pos (by omega) (Evt.pos g0 (Evt.pos (by omega) (Evt.neg ?_ ih)))
   rw [rd_take l _ j g0 (by omega)]
   exact fun e=>mn j g0 g1 (B_iff.1 e)
  ·simp only [impl_Cross_impl_CrossRight_1_146.l0,crossLit_ev,Option.bind_some,hlen]
   refine Evt.pos m1 (Evt.pos m0 (Evt.pos m1 (Evt.pos ?_ (Evt.pure _))))
   rw [rd_take l _ m m0 (by omega)]
   exact B_true mp
 ·rw [B_false hd]
  refine Evt.bind (a:=(-1,a,b,c)) ?_ ((Evt.pure _).same (by simp))
  refine up_loop i (fun k (_:Unit) j=>impl_Cross_impl_CrossRight_1_146.l0 k (l.take i.toNat) i j a b c) (fun _=>()) (fun _=>(-1,a,b,c)) ?_ ?_ 0 (Int.le_refl _) h0
  ·intro j g0 g1 ih
   have hw:wrap64 (j+1)=j+1:=w64 (by omega) (by omega)
   simp only [impl_Cross_impl_CrossRight_1_146.l0,hw,crossLit_ev,Option.bind_some,hlen]
   refine Evt.pos g1 (Evt.pos g0 (Evt.pos g1 (Evt.neg ?_ ih)))
   rw [rd_take l _ j g0 (by omega)]
   exact fun e=>hd ⟨j,g0,g1,B_iff.1 e⟩
  ·simp only [impl_Cross_impl_CrossRight_1_146.l0]
   exact Evt.neg (by omega) (Evt.pure _)
theorem implCross_ev (l:List S114) (hs:∀ x ∈ l,okX x):Evt (fun k=>impl_CrossRight.f k l) (crossB l):=by
 unfold impl_CrossRight.f
 by_cases hn:(l.length:Int)>200
 ·exact Evt.pos hn ((Evt.pure false).same (B_false (fun h=>by have:=h.1;omega)).symm)
 ·refine Evt.neg hn ?_
  refine (right_loop (l.length:Int) (by omega) (crossAt l) True (fun k i=>impl_CrossRight.l0 k l l (l.length:Int) i) ?_ ?_).same (B_congr ⟨fun h=>⟨by omega,h.1⟩,fun h=>⟨h.2,trivial⟩⟩)
  ·intro i h0 hlt
   obtain ⟨k0,k1,k2⟩:=okX_at hs i hlt h0
   have hw:wrap64 (i+1)=i+1:=w64 (by omega) (by omega)
   have hw1:wrap64 (i - 1)=i - 1:=w64 (by omega) (by omega)
   have bad:Evt (fun k=>impl_CrossRight.j1 k l i l (l.length:Int) i true (rd_T114 l i).f0 (rd_T114 l i).f1 (rd_T114 l i).f2) false:=by
    apply Evt.succ
    simp only [impl_CrossRight.j1,if_true]
    exact Evt.pure _
   simp only [impl_CrossRight.l0,hw1]
   refine ⟨fun ok r hr=>?_,fun nok=>?_⟩
   ·obtain ⟨⟨o1,o2,o3,o4⟩,o5⟩:=ok
    have go:Evt (fun k=>impl_CrossRight.j1 k l i l (l.length:Int) i false (rd_T114 l i).f0 (rd_T114 l i).f1 (rd_T114 l i).f2) r:=by
     apply Evt.succ
     simp only [impl_CrossRight.j1,Bool.false_eq_true,if_false,hw]
     refine Evt.pos h0 (Evt.pos (by omega) (Evt.bind (crossIn_ev l i _ _ _ h0 hlt (by omega)) (Evt.neg ?_ hr)))
     rw [B_false (fun ⟨j,g0,g1,gd⟩=>o5 j g0 g1 gd)]
     simp
    refine Evt.pos hlt (Evt.pos h0 (Evt.pos hlt (Evt.bind (implName_ev _ k0) (Evt.pos o1 (Evt.bind (implName_ev _ k1) (Evt.pos o2 (Evt.bind (implName_ev _ k2) (Evt.pos o3 (Evt.ite (fun hp=>Evt.pos (by omega) (Evt.pos (by omega) (Evt.bind (crossOrder_ev _ _ _ _ _ _) ?_))) (fun _=>go))))))))))
    rw [decide_eq_false (fun h=>(xcmp_iff _ _ _ _).1 h (o4 hp))]
    exact go
   ·refine Evt.pos hlt (Evt.pos h0 (Evt.pos hlt (Evt.bind (implName_ev _ k0) (Evt.ite (fun e1=>Evt.bind (implName_ev _ k1) (Evt.ite (fun e2=>Evt.bind (implName_ev _ k2) (Evt.ite (fun e3=>?_) (fun _=>bad))) (fun _=>bad))) (fun _=>bad)))))
    have dup:(0<i→xbefore (rd_T114 l (i - 1)).f0 (rd_T114 l (i - 1)).f1 (rd_T114 l i).f0 (rd_T114 l i).f1)→Evt (fun k=>impl_CrossRight.j1 k l i l (l.length:Int) i false (rd_T114 l i).f0 (rd_T114 l i).f1 (rd_T114 l i).f2) false:=fun e4=>by
     apply Evt.succ
     simp only [impl_CrossRight.j1,Bool.false_eq_true,if_false,hw]
     refine Evt.pos h0 (Evt.pos (by omega) (Evt.bind (crossIn_ev l i _ _ _ h0 hlt (by omega)) (Evt.pos ?_ (Evt.pure _))))
     exact B_true (Classical.not_not.1 (fun hno=>nok ⟨⟨e1,e2,e3,e4⟩,fun j g0 g1 gd=>hno ⟨j,g0,g1,gd⟩⟩))
    refine Evt.ite (fun hp=>Evt.pos (by omega) (Evt.pos (by omega) (Evt.bind (crossOrder_ev _ _ _ _ _ _) ?_))) (fun hp=>dup (fun h=>absurd h hp))
    by_cases e4:xbefore (rd_T114 l (i - 1)).f0 (rd_T114 l (i - 1)).f1 (rd_T114 l i).f0 (rd_T114 l i).f1
    ·rw [decide_eq_false (fun h=>(xcmp_iff _ _ _ _).1 h e4)]
     exact dup (fun _=>e4)
    ·rw [decide_eq_true ((xcmp_iff _ _ _ _).2 e4)]
     exact bad
  ·simp only [impl_CrossRight.l0]
   exact Evt.neg (by omega) ((Evt.pure true).same (B_true trivial).symm)
theorem szCross_ev (b c e:ByteArray) (x:Int) (h0:0≤x) (h1:x≤1048576) (hb:(b.size:Int)≤9223372036854775807) (hc:(c.size:Int)≤9223372036854775807) (he:(e.size:Int)≤9223372036854775807) :
  ∃ r,laws_szCross.f b c e x=some r∧(r<0∨(0≤r∧r≤x∧True)):=by
 unfold laws_szCross.f
 refine sz_step h0 h1 (by omega) hb (fun g1=>?_)
 rw [wsub h0 h1 (by omega) hb]
 refine sz_step g1 (by omega) (by omega) hc (fun g2=>?_)
 rw [wsub g1 (by omega) (by omega) hc]
 refine sz_step g2 (by omega) (by omega) he (fun g3=>?_)
 rw [wsub g2 (by omega) (by omega) he]
 exact ⟨_,rfl,.inr ⟨g3,Int.le_refl _,trivial⟩⟩
def okLX (x:S96):Prop:=(x.f0.size:Int)≤9223372036854775807∧(x.f1.size:Int)≤9223372036854775807∧(x.f2.size:Int)≤9223372036854775807
theorem okLX_of {x:S96} (h:wf96 x):okLX x:=by
 have g0:x.f0.size≤2 ^ 63 - 1:=h.1
 have g1:x.f1.size≤2 ^ 63 - 1:=h.2.1
 have g2:x.f2.size≤2 ^ 63 - 1:=h.2.2
 exact ⟨by omega,by omega,by omega⟩
theorem szCrossS_ev (l:List S96) (hl:l.length≤9223372036854775807) (hx:∀ x ∈ l,okLX x) (left:Int) (h0:0≤left) (h1:left≤1048576):SzR (fun k=>laws_szCrossS.f k l left) left (l.length≤1048576∧∀ i:Int,0≤i→i<(l.length:Int)→True):=by
 refine sz_loop l.length hl (fun _=>True) _ (fun k s i=>laws_szCrossS.l0 k l s i) left h0 h1 (fun k=>rfl) ?_ ?_
 ·intro s i h0 hlt hs0 hs1
  have hw:wrap64 (i+1)=i+1:=w64 (by omega) (by omega)
  have hk:okLX (rd_T96 l i):=by
   unfold rd_T96
   rw [getD_at l _ _ (by omega)]
   exact hx _ (List.getElem_mem _)
  obtain ⟨t,ht,h2⟩:=szCross_ev (rd_T96 l i).f0 (rd_T96 l i).f1 (rd_T96 l i).f2 s hs0 hs1 hk.1 hk.2.1 hk.2.2
  simp only [laws_szCrossS.l0,ht,Option.bind_some,hw]
  rcases h2 with h2 | ⟨h2,h3,_⟩
  ·exact .inl ⟨-1,by decide,Evt.pos hlt (Evt.pos h0 (Evt.pos h2 (Evt.pure _)))⟩
  ·exact .inr ⟨t,h2,h3,trivial,fun r hr=>Evt.pos hlt (Evt.pos h0 (Evt.neg (by omega) hr))⟩
 ·intro s i hi
  simp only [laws_szCrossS.l0]
  exact Evt.neg (by omega) (Evt.pure _)
def cvCross (x:S96):S114:=⟨x.f0,x.f1,x.f2⟩
theorem toCrossS_ev (l:List S96) (hl:l.length≤1048576):Evt (fun k=>laws_toCrossS.f k l) (l.map cvCross):=by
 unfold laws_toCrossS.f
 refine Evt.pos (by omega) (Evt.pos (by omega) ?_)
 rw [Int.toNat_natCast]
 refine fill_loop l z96 z114 cvCross (fun k acc i=>laws_toCrossS.l0 k l acc i) ?_ ?_
 ·intro acc i h0 hlt ha r hr
  have hw:wrap64 (i+1)=i+1:=w64 (by omega) (by omega)
  simp only [laws_toCrossS.l0,laws_toCross.f,Option.bind_some,hw]
  exact Evt.pos hlt (Evt.pos h0 (Evt.pos (by omega) hr))
 ·intro acc i hi
  simp only [laws_toCrossS.l0]
  exact Evt.neg (by omega) (Evt.pure _)
theorem eqCrossS_refl (l:List S114) (hl:l.length≤9000000):Evt (fun k=>laws_eqCrossS.f k l l) true:=by
 unfold laws_eqCrossS.f
 refine Evt.pos rfl (all_loop (l.length:Int) (by omega) (fun k i=>laws_eqCrossS.l0 k l l i) ?_ ?_)
 ·intro i h0 hlt ih
  have hw:wrap64 (i+1)=i+1:=w64 (by omega) (by omega)
  simp only [laws_eqCrossS.l0,laws_eqCross.f,if_true,Option.bind_some,hw]
  exact Evt.pos hlt (Evt.pos h0 (Evt.pos hlt ih))
 ·simp only [laws_eqCrossS.l0]
  exact Evt.neg (by omega) (Evt.pure _)
theorem okX_map (l:List S96) (h:∀ x ∈ l,okLX x):∀ x ∈ l.map cvCross,okX x:=by
 intro x hx
 obtain ⟨y,hy,rfl⟩:=List.mem_map.1 hx
 exact h y hy
end Go.Proofs.YtomoflpgdbjojaaGreat.QN
namespace Go.Proofs.YtomoflpgdbjojaaGreat.QN
open Go.RowKit Go.Proofs.YtomoflpgdbjojaaGreatW.PrintWords Go.Proofs.YtomoflpgdbjojaaGreat.Ev0
def LineP (a b:ByteArray) (n:Int) (i:ByteArray) (o s g c:Int):Prop :=
 NameP a∧NameP b∧NameP i∧(1≤n∧n≤999)∧(1≤o∧o≤1000000)∧(0≤s∧s≤o)∧(0≤g∧g≤s)∧(0≤c∧c≤wrap64 (o - s))
noncomputable def lineB (a b:ByteArray) (n:Int) (i:ByteArray) (o s g c:Int):Bool:=B (LineP a b n i o s g c)
theorem specLine_ev (a b:ByteArray) (n:Int) (i:ByteArray) (o s g c:Int) (ha:(a.size:Int)≤9223372036854775807) (hb:(b.size:Int)≤9223372036854775807) (hi:(i.size:Int)≤9223372036854775807) :
  Evt (fun k=>spec_LineRight.f k a b n i o s g c) (lineB a b n i o s g c):=by
 unfold spec_LineRight.f
 have key:Evt (fun k=>spec_LineRight.f k a b n i o s g c) (B (NameP a∧NameP b∧NameP i∧1≤n∧n≤999∧(1≤o∧o≤1000000)∧0≤s∧0≤g∧0≤c∧g≤s∧s≤o∧c≤wrap64 (o - s))):=by
  unfold spec_LineRight.f
  refine Evt.bind (specName_ev a ha) (and_ B_iff fun _=>Evt.bind (specName_ev b hb) (and_ B_iff fun _=>Evt.bind (specName_ev i hi) (and_ B_iff fun _=>and_ Iff.rfl fun _=>and_ Iff.rfl fun _=>?_)))
  rw [l01Qty_ev]
  simp only [Option.bind_some]
  exact and_ B_iff fun _=>and_ Iff.rfl fun _=>and_ Iff.rfl fun _=>and_ Iff.rfl fun _=>and_ Iff.rfl fun _=>and_ Iff.rfl fun _=>last_ Iff.rfl
 refine key.same (B_congr ⟨?_,?_⟩)
 ·rintro ⟨h1,h2,h3,h4,h5,h6,h7,h8,h9,h10,h11,h12⟩
  exact ⟨h1,h2,h3,⟨h4,h5⟩,h6,⟨h7,h11⟩,⟨h8,h10⟩,⟨h9,h12⟩⟩
 ·rintro ⟨h1,h2,h3,⟨h4,h5⟩,h6,⟨h7,h11⟩,⟨h8,h10⟩,⟨h9,h12⟩⟩
  exact ⟨h1,h2,h3,h4,h5,h6,h7,h8,h9,h10,h11,h12⟩
theorem implLine_ev (a b:ByteArray) (n:Int) (i:ByteArray) (o s g c:Int) (ha:(a.size:Int)≤9223372036854775807) (hb:(b.size:Int)≤9223372036854775807) (hi:(i.size:Int)≤9223372036854775807) :
  Evt (fun k=>impl_LineRight.f k a b n i o s g c) (lineB a b n i o s g c):=by
 unfold impl_LineRight.f lineB LineP
 simp only [within_ev,isQty_ev,Option.bind_some]
 exact Evt.bind (implName_ev a ha) (and_ B_iff fun _=>Evt.bind (implName_ev b hb) (and_ B_iff fun _=>Evt.bind (implName_ev i hi) (and_ B_iff fun _=>and_ B_iff fun _=>and_ B_iff fun _=>and_ B_iff fun _=>and_ B_iff fun _=>lastB_ Iff.rfl)))
def lbefore (a b:ByteArray) (n:Int) (a' b':ByteArray) (n':Int):Prop:=less a a'∨(a.toList=a'.toList∧(less b b'∨(b.toList=b'.toList∧n<n')))
theorem l09Before_ev (a b:ByteArray) (n:Int) (i:ByteArray) (o s g c:Int) (a' b':ByteArray) (n':Int) (i':ByteArray) (o' s' g' c':Int) :
  spec_l09Before.f a b n i o s g c a' b' n' i' o' s' g' c'=some (B (lbefore a b n a' b' n')):=by
 unfold spec_l09Before.f lbefore
 rcases cmpS_cases a a' with ⟨h1,h2,h3,_⟩ | ⟨h1,h2,h3,_⟩ | ⟨h1,h2,h3,_⟩
 ·rw [if_neg h3,B_true (.inl h1)]
  exact congrArg some h1
 ·rw [if_neg h3,B_false (fun h=>h.elim h1 (fun h=>h3 h.1))]
  exact congrArg some (Bool.eq_false_iff.2 h1)
 ·rw [if_pos h3]
  rcases cmpS_cases b b' with ⟨g1,g2,g3,_⟩ | ⟨g1,g2,g3,_⟩ | ⟨g1,g2,g3,_⟩
  ·rw [if_neg g3,B_true (.inr ⟨h3,.inl g1⟩)]
   exact congrArg some g1
  ·rw [if_neg g3,B_false (fun h=>h.elim h1 (fun h=>h.2.elim g1 (fun h=>g3 h.1)))]
   exact congrArg some (Bool.eq_false_iff.2 g1)
  ·rw [if_pos g3,decide_B]
   exact congrArg some (B_congr ⟨fun h=>.inr ⟨h3,.inr ⟨g3,h⟩⟩,fun h=>h.elim (fun h=>absurd h h1) (fun h=>h.2.elim (fun h=>absurd h g1) (fun h=>h.2))⟩)
noncomputable def lcmp (a b:ByteArray) (n:Int) (a' b':ByteArray) (n':Int):Int:=orL [cmpS a a',cmpS b b',cmpI n n']
theorem lineOrder_ev (a b:ByteArray) (n:Int) (i:ByteArray) (o s g c:Int) (a' b':ByteArray) (n':Int) (i':ByteArray) (o' s' g' c':Int) :
  Evt (fun k=>impl_lineOrder.f k a b n i o s g c a' b' n' i' o' s' g' c') (lcmp a b n a' b' n'):=by
 unfold impl_lineOrder.f
 simp only [cmpS_ev,cmpI_ev,Option.bind_some]
 exact Evt.bind (or_ev _ (by simp)) (Evt.pure _)
theorem lcmp_iff (a b:ByteArray) (n:Int) (a' b':ByteArray) (n':Int):lcmp a b n a' b' n'≥0 ↔ ¬ lbefore a b n a' b' n':=by
 unfold lcmp lbefore
 rcases cmpS_cases a a' with ⟨h1,h2,h3,h4⟩ | ⟨h1,h2,h3,h4⟩ | ⟨h1,h2,h3,h4⟩
 ·simp [orL,h4,h1]
 ·simp [orL,h4,h1,h3]
 ·rcases cmpS_cases b b' with ⟨g1,g2,g3,g4⟩ | ⟨g1,g2,g3,g4⟩ | ⟨g1,g2,g3,g4⟩
  ·simp [orL,h4,h1,h3,g4,g1]
  ·simp [orL,h4,h1,h3,g4,g1,g3]
  ·rcases cmpI_cases n n' with ⟨e1,e2⟩ | ⟨e1,e2⟩ | ⟨e1,e2⟩
   ·simp [orL,h4,h1,h3,g4,g1,g3,e1,e2]
   ·simp [orL,h4,h1,h3,g4,g1,g3,e2];omega
   ·subst e1
    simp [orL,h4,h1,h3,g4,g1,g3,e2]
def okS (x:S161):Prop:=(x.f0.size:Int)≤9223372036854775807∧(x.f1.size:Int)≤9223372036854775807∧(x.f3.size:Int)≤9223372036854775807
def lineOk (l:List S161) (i:Int):Prop :=
 lineB (rd_T161 l i).f0 (rd_T161 l i).f1 (rd_T161 l i).f2 (rd_T161 l i).f3 (rd_T161 l i).f4 (rd_T161 l i).f5 (rd_T161 l i).f6 (rd_T161 l i).f7=true ∧
  (0<i→lbefore (rd_T161 l (i - 1)).f0 (rd_T161 l (i - 1)).f1 (rd_T161 l (i - 1)).f2 (rd_T161 l i).f0 (rd_T161 l i).f1 (rd_T161 l i).f2)
def LinesP (l:List S161):Prop:=(l.length:Int)≤200∧∀ i,0≤i→i<(l.length:Int)→lineOk l i
noncomputable def linesB (l:List S161):Bool:=B (LinesP l)
theorem okS_at {l:List S161} (h:∀ x ∈ l,okS x) (i:Int) (h1:i<(l.length:Int)) (h0:0≤i):okS (rd_T161 l i):=by
 unfold rd_T161
 rw [getD_at l _ _ (by omega)]
 exact h _ (List.getElem_mem _)
theorem specLines_ev (l:List S161) (hs:∀ x ∈ l,okS x):Evt (fun k=>spec_LinesRight.f k l) (linesB l):=by
 unfold spec_LinesRight.f
 by_cases hn:(l.length:Int)>200
 ·exact Evt.pos hn ((Evt.pure false).same (B_false (fun h=>by have:=h.1;omega)).symm)
 ·refine Evt.neg hn ?_
  refine (right_loop (l.length:Int) (by omega) (lineOk l) True (fun k i=>spec_LinesRight.l0 k l i) ?_ ?_).same (B_congr ⟨fun h=>⟨by omega,h.1⟩,fun h=>⟨h.2,trivial⟩⟩)
  ·intro i h0 hlt
   have hk:=okS_at hs i hlt h0
   have hw:wrap64 (i+1)=i+1:=w64 (by omega) (by omega)
   have hw1:wrap64 (i - 1)=i - 1:=w64 (by omega) (by omega)
   simp only [spec_LinesRight.l0,hw,hw1,l09Before_ev,Option.bind_some]
   refine ⟨fun ok r hr=>?_,fun nok=>?_⟩
   ·refine Evt.pos hlt (Evt.pos h0 (Evt.bind (specLine_ev _ _ _ _ _ _ _ _ hk.1 hk.2.1 hk.2.2) (Evt.pos ok.1 (Evt.ite (fun hp=>Evt.pos (by omega) (Evt.pos (by omega) (Evt.pos (B_true (ok.2 hp)) hr))) (fun _=>hr)))))
   ·refine Evt.pos hlt (Evt.pos h0 (Evt.bind (specLine_ev _ _ _ _ _ _ _ _ hk.1 hk.2.1 hk.2.2) (Evt.ite (fun hl=>Evt.ite (fun hp=>Evt.pos (by omega) (Evt.pos (by omega) (Evt.neg (fun hb=>nok ⟨hl,fun _=>B_iff.1 hb⟩) (Evt.pure _)))) (fun hp=>absurd ⟨hl,fun h=>absurd h hp⟩ nok)) (fun _=>Evt.pure _))))
  ·simp only [spec_LinesRight.l0]
   exact Evt.neg (by omega) ((Evt.pure true).same (B_true trivial).symm)
theorem implLines_ev (l:List S161) (hs:∀ x ∈ l,okS x):Evt (fun k=>impl_LinesRight.f k l) (linesB l):=by
 unfold impl_LinesRight.f
 by_cases hn:(l.length:Int)>200
 ·exact Evt.pos hn ((Evt.pure false).same (B_false (fun h=>by have:=h.1;omega)).symm)
 ·refine Evt.neg hn ?_
  refine (right_loop (l.length:Int) (by omega) (lineOk l) True (fun k i=>impl_LinesRight.l0 k l l (l.length:Int) i) ?_ ?_).same (B_congr ⟨fun h=>⟨by omega,h.1⟩,fun h=>⟨h.2,trivial⟩⟩)
  ·intro i h0 hlt
   have hk:=okS_at hs i hlt h0
   have hw:wrap64 (i+1)=i+1:=w64 (by omega) (by omega)
   have hw1:wrap64 (i - 1)=i - 1:=w64 (by omega) (by omega)
   simp only [impl_LinesRight.l0,hw,hw1]
   refine ⟨fun ok r hr=>?_,fun nok=>?_⟩
   ·refine Evt.pos hlt (Evt.pos h0 (Evt.pos hlt (Evt.bind (implLine_ev _ _ _ _ _ _ _ _ hk.1 hk.2.1 hk.2.2) (Evt.pos ok.1 (Evt.ite (fun hp=>Evt.pos (by omega) (Evt.pos (by omega) (Evt.bind (lineOrder_ev _ _ _ _ _ _ _ _ _ _ _ _ _ _ _ _) (Evt.neg (fun h=>(lcmp_iff _ _ _ _ _ _).1 h (ok.2 hp)) hr)))) (fun _=>hr))))))
   ·refine Evt.pos hlt (Evt.pos h0 (Evt.pos hlt (Evt.bind (implLine_ev _ _ _ _ _ _ _ _ hk.1 hk.2.1 hk.2.2) (Evt.ite (fun hl=>Evt.ite (fun hp=>Evt.pos (by omega) (Evt.pos (by omega) (Evt.bind (lineOrder_ev _ _ _ _ _ _ _ _ _ _ _ _ _ _ _ _) (Evt.pos ((lcmp_iff _ _ _ _ _ _).2 (fun hb=>nok ⟨hl,fun _=>hb⟩)) (Evt.pure _))))) (fun hp=>absurd ⟨hl,fun h=>absurd h hp⟩ nok)) (fun _=>Evt.pure _)))))
  ·simp only [impl_LinesRight.l0]
   exact Evt.neg (by omega) ((Evt.pure true).same (B_true trivial).symm)
end Go.Proofs.YtomoflpgdbjojaaGreat.QN
namespace Go.Proofs.YtomoflpgdbjojaaGreat.QN
open Go.RowKit Go.Proofs.YtomoflpgdbjojaaGreat Go.Proofs.YtomoflpgdbjojaaGreatW.PrintWords Go.Proofs.YtomoflpgdbjojaaGreat.Ev0
theorem szLine_ev (a b:ByteArray) (n:Int) (i:ByteArray) (o s g c t:Int) (h0:0≤t) (h1:t≤1048576) (ha:(a.size:Int)≤9223372036854775807) (hb:(b.size:Int)≤9223372036854775807) (hi:(i.size:Int)≤9223372036854775807) :
  ∃ r,laws_szOrderLine.f a b n i o s g c t=some r∧(r<0∨(0≤r∧r≤t∧True)):=by
 unfold laws_szOrderLine.f
 refine sz_step h0 h1 (by omega) ha (fun g1=>?_)
 rw [wsub h0 h1 (by omega) ha]
 refine sz_step g1 (by omega) (by omega) hb (fun g2=>?_)
 rw [wsub g1 (by omega) (by omega) hb]
 refine sz_step g2 (by omega) (by omega) hi (fun g3=>?_)
 rw [wsub g2 (by omega) (by omega) hi]
 exact ⟨_,rfl,.inr ⟨g3,Int.le_refl _,trivial⟩⟩
def okL (x:S150):Prop:=(x.f0.size:Int)≤9223372036854775807∧(x.f1.size:Int)≤9223372036854775807∧(x.f3.size:Int)≤9223372036854775807
theorem okL_of {x:S150} (h:wf150 x):okL x:=by
 obtain ⟨h0,h1,_,h3,_⟩:=h
 have g0:x.f0.size≤2 ^ 63 - 1:=h0
 have g1:x.f1.size≤2 ^ 63 - 1:=h1
 have g3:x.f3.size≤2 ^ 63 - 1:=h3
 exact ⟨by omega,by omega,by omega⟩
theorem szLineS_ev (l:List S150) (hl:l.length≤9223372036854775807) (hx:∀ x ∈ l,okL x) (left:Int) (h0:0≤left) (h1:left≤1048576):SzR (fun k=>laws_szOrderLineS.f k l left) left (l.length≤1048576∧∀ i:Int,0≤i→i<(l.length:Int)→True):=by
 refine sz_loop l.length hl (fun _=>True) _ (fun k s i=>laws_szOrderLineS.l0 k l s i) left h0 h1 (fun k=>rfl) ?_ ?_
 ·intro s i h0 hlt hs0 hs1
  have hw:wrap64 (i+1)=i+1:=w64 (by omega) (by omega)
  have hk:okL (rd_T150 l i):=by
   unfold rd_T150
   rw [getD_at l _ _ (by omega)]
   exact hx _ (List.getElem_mem _)
  obtain ⟨t,ht,h2⟩:=szLine_ev (rd_T150 l i).f0 (rd_T150 l i).f1 (rd_T150 l i).f2 (rd_T150 l i).f3 (rd_T150 l i).f4 (rd_T150 l i).f5 (rd_T150 l i).f6 (rd_T150 l i).f7 s hs0 hs1 hk.1 hk.2.1 hk.2.2
  simp only [laws_szOrderLineS.l0,ht,Option.bind_some,hw]
  rcases h2 with h2 | ⟨h2,h3,_⟩
  ·exact .inl ⟨-1,by decide,Evt.pos hlt (Evt.pos h0 (Evt.pos h2 (Evt.pure _)))⟩
  ·exact .inr ⟨t,h2,h3,trivial,fun r hr=>Evt.pos hlt (Evt.pos h0 (Evt.neg (by omega) hr))⟩
 ·intro s i hi
  simp only [laws_szOrderLineS.l0]
  exact Evt.neg (by omega) (Evt.pure _)
def cvLine (x:S150):S161:=⟨x.f0,x.f1,x.f2,x.f3,x.f4,x.f5,x.f6,x.f7⟩
theorem toLineS_ev (l:List S150) (hl:l.length≤1048576):Evt (fun k=>laws_toOrderLineS.f k l) (l.map cvLine):=by
 unfold laws_toOrderLineS.f
 refine Evt.pos (by omega) (Evt.pos (by omega) ?_)
 rw [Int.toNat_natCast]
 refine fill_loop l z150 z161 cvLine (fun k acc i=>laws_toOrderLineS.l0 k l acc i) ?_ ?_
 ·intro acc i h0 hlt ha r hr
  have hw:wrap64 (i+1)=i+1:=w64 (by omega) (by omega)
  simp only [laws_toOrderLineS.l0,laws_toOrderLine.f,Option.bind_some,hw]
  exact Evt.pos hlt (Evt.pos h0 (Evt.pos (by omega) hr))
 ·intro acc i hi
  simp only [laws_toOrderLineS.l0]
  exact Evt.neg (by omega) (Evt.pure _)
theorem eqLine_refl (a b:ByteArray) (n:Int) (i:ByteArray) (o s g c:Int):laws_eqOrderLine.f a b n i o s g c a b n i o s g c=some true:=by
 simp only [laws_eqOrderLine.f,if_true]
theorem eqLineS_refl (l:List S161) (hl:l.length≤9000000):Evt (fun k=>laws_eqOrderLineS.f k l l) true:=by
 unfold laws_eqOrderLineS.f
 refine Evt.pos rfl (all_loop (l.length:Int) (by omega) (fun k i=>laws_eqOrderLineS.l0 k l l i) ?_ ?_)
 ·intro i h0 hlt ih
  have hw:wrap64 (i+1)=i+1:=w64 (by omega) (by omega)
  simp only [laws_eqOrderLineS.l0,eqLine_refl,Option.bind_some,hw]
  exact Evt.pos hlt (Evt.pos h0 (Evt.pos hlt (Evt.pos (by simp) ih)))
 ·simp only [laws_eqOrderLineS.l0]
  exact Evt.neg (by omega) (Evt.pure _)
theorem okS_map (l:List S150) (h:∀ x ∈ l,okL x):∀ x ∈ l.map cvLine,okS x:=by
 intro x hx
 obtain ⟨y,hy,rfl⟩:=List.mem_map.1 hx
 exact h y hy
def okK (x:S152):Prop:=(x.f0.size:Int)≤9223372036854775807
theorem okK_at {l:List S152} (h:∀ x ∈ l,okK x) (i:Int) (h1:i<(l.length:Int)) (h0:0≤i):okK (rd_T152 l i):=by
 unfold rd_T152
 rw [getD_at l _ _ (by omega)]
 exact h _ (List.getElem_mem _)
def stockAt (l:List S152) (i:Int):Prop :=
 nameB (rd_T152 l i).f0=true∧(0≤(rd_T152 l i).f1∧(rd_T152 l i).f1≤1000000000)∧(0<i→less (rd_T152 l (i - 1)).f0 (rd_T152 l i).f0)
def BookP (l:List S152) (m:List S161):Prop:=(l.length:Int)≤100∧(∀ i,0≤i→i<(l.length:Int)→stockAt l i)∧linesB m=true
noncomputable def bookB (l:List S152) (m:List S161):Bool:=B (BookP l m)
theorem specBook_ev (l:List S152) (m:List S161) (hs:∀ x ∈ l,okK x) (hm:∀ x ∈ m,okS x):Evt (fun k=>spec_BookRight.f k l m) (bookB l m):=by
 unfold spec_BookRight.f
 have bad:¬ BookP l m→Evt (fun k=>spec_BookRight.j0 k true l m) (bookB l m):=fun h=>by
  apply Evt.succ
  simp only [spec_BookRight.j0,if_true]
  exact (Evt.pure false).same (B_false h).symm
 by_cases hn:(l.length:Int)>100
 ·exact Evt.pos hn (bad (fun h=>by have:=h.1;omega))
 ·refine Evt.neg hn (Evt.bind (specLines_ev m hm) ?_)
  by_cases hl:linesB m=true
  ·rw [hl]
   simp only [Bool.not_true]
   apply Evt.succ
   simp only [spec_BookRight.j0,Bool.false_eq_true,if_false]
   refine (right_loop (l.length:Int) (by omega) (stockAt l) True (fun k i=>spec_BookRight.l0 k i l m) ?_ ?_).same (B_congr ⟨fun h=>⟨by omega,h.1,hl⟩,fun h=>⟨h.2.1,trivial⟩⟩)
   ·intro i h0 hlt
    have hk:=okK_at hs i hlt h0
    have hw:wrap64 (i+1)=i+1:=w64 (by omega) (by omega)
    have hw1:wrap64 (i - 1)=i - 1:=w64 (by omega) (by omega)
    simp only [spec_BookRight.l0,hw,hw1]
    refine ⟨fun ok r hr=>?_,fun nok=>?_⟩
    ·exact Evt.pos hlt (Evt.pos h0 (Evt.bind (specName_ev _ hk) (Evt.pos ok.1 (Evt.neg (by have:=ok.2.1.1;omega) (Evt.neg (by have:=ok.2.1.2;omega) (Evt.ite (fun hp=>Evt.pos (by omega) (Evt.pos (by omega) (Evt.pos (ok.2.2 hp) hr))) (fun _=>hr)))))))
    ·exact Evt.pos hlt (Evt.pos h0 (Evt.bind (specName_ev _ hk) (Evt.ite (fun g1=>Evt.ite (fun _=>Evt.pure _) (fun g2=>Evt.ite (fun _=>Evt.pure _) (fun g3=>Evt.ite (fun hp=>Evt.pos (by omega) (Evt.pos (by omega) (Evt.neg (fun hb=>nok ⟨g1,⟨by omega,by omega⟩,fun _=>hb⟩) (Evt.pure _)))) (fun hp=>absurd ⟨g1,⟨by omega,by omega⟩,fun h=>absurd h hp⟩ nok)))) (fun _=>Evt.pure _))))
   ·simp only [spec_BookRight.l0]
    exact Evt.neg (by omega) ((Evt.pure true).same (B_true trivial).symm)
  ·rw [Bool.eq_false_iff.2 hl]
   simp only [Bool.not_false]
   exact bad (fun h=>hl h.2.2)
theorem implBook_ev (l:List S152) (m:List S161) (hs:∀ x ∈ l,okK x) (hm:∀ x ∈ m,okS x):Evt (fun k=>impl_BookRight.f k l m) (bookB l m):=by
 unfold impl_BookRight.f
 by_cases hn:(l.length:Int)>100
 ·exact Evt.pos hn ((Evt.pure false).same (B_false (fun h=>by have:=h.1;omega)).symm)
 ·refine Evt.neg hn ?_
  refine (right_loop (l.length:Int) (by omega) (stockAt l) (linesB m=true) (fun k i=>impl_BookRight.l0 k l (l.length:Int) i l m) ?_ ?_).same (B_congr ⟨fun h=>⟨by omega,h⟩,fun h=>h.2⟩)
  ·intro i h0 hlt
   have hk:=okK_at hs i hlt h0
   have hw:wrap64 (i+1)=i+1:=w64 (by omega) (by omega)
   have hw1:wrap64 (i - 1)=i - 1:=w64 (by omega) (by omega)
   simp only [impl_BookRight.l0,hw,hw1,within_ev,Option.bind_some]
   refine ⟨fun ok r hr=>?_,fun nok=>?_⟩
   ·exact Evt.pos hlt (Evt.pos h0 (Evt.pos hlt (Evt.bind (implName_ev _ hk) (Evt.pos ok.1 (Evt.pos (B_true ok.2.1) (Evt.ite (fun hp=>Evt.pos (by omega) (Evt.pos (by omega) (Evt.pos (ok.2.2 hp) hr))) (fun _=>hr)))))))
   ·exact Evt.pos hlt (Evt.pos h0 (Evt.pos hlt (Evt.bind (implName_ev _ hk) (Evt.ite (fun g1=>Evt.ite (fun g2=>Evt.ite (fun hp=>Evt.pos (by omega) (Evt.pos (by omega) (Evt.neg (fun hb=>nok ⟨g1,B_iff.1 g2,fun _=>hb⟩) (Evt.pure _)))) (fun hp=>absurd ⟨g1,B_iff.1 g2,fun h=>absurd h hp⟩ nok)) (fun _=>Evt.pure _)) (fun _=>Evt.pure _)))))
  ·simp only [impl_BookRight.l0]
   refine Evt.neg (by omega) (Evt.bind (implLines_ev m hm) ((Evt.pure _).same ?_))
   exact bool_B Iff.rfl
theorem szStock_ev (p:ByteArray) (n x:Int) (h0:0≤x) (h1:x≤1048576) (hp:(p.size:Int)≤9223372036854775807):∃ r,laws_szStock.f p n x=some r∧(r<0∨(0≤r∧r≤x∧True)):=by
 unfold laws_szStock.f
 refine sz_step h0 h1 (by omega) hp (fun g1=>?_)
 rw [wsub h0 h1 (by omega) hp]
 exact ⟨_,rfl,.inr ⟨g1,Int.le_refl _,trivial⟩⟩
def okLK (x:S147):Prop:=(x.f0.size:Int)≤9223372036854775807
theorem okLK_of {x:S147} (h:wf147 x):okLK x:=by
 have g0:x.f0.size≤2 ^ 63 - 1:=h.1
 show (x.f0.size:Int)≤_
 omega
theorem szStockS_ev (l:List S147) (hl:l.length≤9223372036854775807) (hx:∀ x ∈ l,okLK x) (left:Int) (h0:0≤left) (h1:left≤1048576):SzR (fun k=>laws_szStockS.f k l left) left (l.length≤1048576∧∀ i:Int,0≤i→i<(l.length:Int)→True):=by
 refine sz_loop l.length hl (fun _=>True) _ (fun k s i=>laws_szStockS.l0 k l s i) left h0 h1 (fun k=>rfl) ?_ ?_
 ·intro s i h0 hlt hs0 hs1
  have hw:wrap64 (i+1)=i+1:=w64 (by omega) (by omega)
  have hk:okLK (rd_T147 l i):=by
   unfold rd_T147
   rw [getD_at l _ _ (by omega)]
   exact hx _ (List.getElem_mem _)
  obtain ⟨t,ht,h2⟩:=szStock_ev (rd_T147 l i).f0 (rd_T147 l i).f1 s hs0 hs1 hk
  simp only [laws_szStockS.l0,ht,Option.bind_some,hw]
  rcases h2 with h2 | ⟨h2,h3,_⟩
  ·exact .inl ⟨-1,by decide,Evt.pos hlt (Evt.pos h0 (Evt.pos h2 (Evt.pure _)))⟩
  ·exact .inr ⟨t,h2,h3,trivial,fun r hr=>Evt.pos hlt (Evt.pos h0 (Evt.neg (by omega) hr))⟩
 ·intro s i hi
  simp only [laws_szStockS.l0]
  exact Evt.neg (by omega) (Evt.pure _)
def cvStock (x:S147):S152:=⟨x.f0,x.f1⟩
theorem toStockS_ev (l:List S147) (hl:l.length≤1048576):Evt (fun k=>laws_toStockS.f k l) (l.map cvStock):=by
 unfold laws_toStockS.f
 refine Evt.pos (by omega) (Evt.pos (by omega) ?_)
 rw [Int.toNat_natCast]
 refine fill_loop l z147 z152 cvStock (fun k acc i=>laws_toStockS.l0 k l acc i) ?_ ?_
 ·intro acc i h0 hlt ha r hr
  have hw:wrap64 (i+1)=i+1:=w64 (by omega) (by omega)
  simp only [laws_toStockS.l0,laws_toStock.f,Option.bind_some,hw]
  exact Evt.pos hlt (Evt.pos h0 (Evt.pos (by omega) hr))
 ·intro acc i hi
  simp only [laws_toStockS.l0]
  exact Evt.neg (by omega) (Evt.pure _)
theorem eqStockS_refl (l:List S152) (hl:l.length≤9000000):Evt (fun k=>laws_eqStockS.f k l l) true:=by
 unfold laws_eqStockS.f
 refine Evt.pos rfl (all_loop (l.length:Int) (by omega) (fun k i=>laws_eqStockS.l0 k l l i) ?_ ?_)
 ·intro i h0 hlt ih
  have hw:wrap64 (i+1)=i+1:=w64 (by omega) (by omega)
  simp only [laws_eqStockS.l0,laws_eqStock.f,if_true,Option.bind_some,hw]
  exact Evt.pos hlt (Evt.pos h0 (Evt.pos hlt ih))
 ·simp only [laws_eqStockS.l0]
  exact Evt.neg (by omega) (Evt.pure _)
theorem okK_map (l:List S147) (h:∀ x ∈ l,okLK x):∀ x ∈ l.map cvStock,okK x:=by
 intro x hx
 obtain ⟨y,hy,rfl⟩:=List.mem_map.1 hx
 exact h y hy
theorem szBook_ev (l:List S147) (m:List S150) (hl:l.length≤9223372036854775807) (hx:∀ x ∈ l,okLK x) (hm:m.length≤9223372036854775807) (hy:∀ x ∈ m,okL x) (left:Int) (h0:0≤left) (h1:left≤1048576) :
  SzR (fun k=>laws_szBook.f k l m left) left (l.length≤1048576∧m.length≤1048576):=by
 obtain ⟨t,ht,h2⟩:=szStockS_ev l hl hx left h0 h1
 rcases h2 with h2 | ⟨h2,h3,h4,_⟩
 ·exact ⟨-1,Evt.bind ht (Evt.pos h2 (Evt.pure _)),.inl (by decide)⟩
 ·obtain ⟨u,hu,g2⟩:=szLineS_ev m hm hy t h2 (by omega)
  rcases g2 with g2 | ⟨g2,g3,g4,_⟩
  ·exact ⟨-1,Evt.bind ht (Evt.neg (by omega) (Evt.bind hu (Evt.pos g2 (Evt.pure _)))),.inl (by decide)⟩
  ·exact ⟨u,Evt.bind ht (Evt.neg (by omega) (Evt.bind hu (Evt.neg (by omega) (Evt.pure _)))),.inr ⟨g2,by omega,h4,g4⟩⟩
theorem toBook_ev (l:List S147) (m:List S150) (hl:l.length≤1048576) (hm:m.length≤1048576):Evt (fun k=>laws_toBook.f k l m) (l.map cvStock,m.map cvLine) :=
 Evt.bind (toStockS_ev l hl) (Evt.bind (toLineS_ev m hm) (Evt.pure _))
theorem eqBook_refl (l:List S152) (m:List S161) (hl:l.length≤9000000) (hm:m.length≤9000000):Evt (fun k=>laws_eqBook.f k l m l m) true :=
 Evt.bind (eqStockS_refl l hl) (Evt.pos rfl (Evt.bind (eqLineS_refl m hm) (Evt.pos rfl (Evt.pure _))))
theorem szOut_ev (p:ByteArray) (n:Int) (t:ByteArray) (tr due x:Int) (h0:0≤x) (h1:x≤1048576) (hp:(p.size:Int)≤9223372036854775807) (ht:(t.size:Int)≤9223372036854775807) :
  ∃ r,laws_szOut.f p n t tr due x=some r∧(r<0∨(0≤r∧r≤x∧True)):=by
 unfold laws_szOut.f
 refine sz_step h0 h1 (by omega) hp (fun g1=>?_)
 rw [wsub h0 h1 (by omega) hp]
 refine sz_step g1 (by omega) (by omega) ht (fun g2=>?_)
 rw [wsub g1 (by omega) (by omega) ht]
 exact ⟨_,rfl,.inr ⟨g2,Int.le_refl _,trivial⟩⟩
def okLO (x:S104):Prop:=(x.f0.size:Int)≤9223372036854775807∧(x.f2.size:Int)≤9223372036854775807
theorem okLO_of {x:S104} (h:wf104 x):okLO x:=by
 obtain ⟨h0,_,h2,_⟩:=h
 have g0:x.f0.size≤2 ^ 63 - 1:=h0
 have g2:x.f2.size≤2 ^ 63 - 1:=h2
 exact ⟨by omega,by omega⟩
theorem szOutS_ev (l:List S104) (hl:l.length≤9223372036854775807) (hx:∀ x ∈ l,okLO x) (left:Int) (h0:0≤left) (h1:left≤1048576):SzR (fun k=>laws_szOutS.f k l left) left (l.length≤1048576∧∀ i:Int,0≤i→i<(l.length:Int)→True):=by
 refine sz_loop l.length hl (fun _=>True) _ (fun k s i=>laws_szOutS.l0 k l s i) left h0 h1 (fun k=>rfl) ?_ ?_
 ·intro s i h0 hlt hs0 hs1
  have hw:wrap64 (i+1)=i+1:=w64 (by omega) (by omega)
  have hk:okLO (rd_T104 l i):=by
   unfold rd_T104
   rw [getD_at l _ _ (by omega)]
   exact hx _ (List.getElem_mem _)
  obtain ⟨t,ht,h2⟩:=szOut_ev (rd_T104 l i).f0 (rd_T104 l i).f1 (rd_T104 l i).f2 (rd_T104 l i).f3 (rd_T104 l i).f4 s hs0 hs1 hk.1 hk.2
  simp only [laws_szOutS.l0,ht,Option.bind_some,hw]
  rcases h2 with h2 | ⟨h2,h3,_⟩
  ·exact .inl ⟨-1,by decide,Evt.pos hlt (Evt.pos h0 (Evt.pos h2 (Evt.pure _)))⟩
  ·exact .inr ⟨t,h2,h3,trivial,fun r hr=>Evt.pos hlt (Evt.pos h0 (Evt.neg (by omega) hr))⟩
 ·intro s i hi
  simp only [laws_szOutS.l0]
  exact Evt.neg (by omega) (Evt.pure _)
def cvOut (x:S104):S120:=⟨x.f0,x.f1,x.f2,x.f3,x.f4⟩
theorem toOutS_ev (l:List S104) (hl:l.length≤1048576):Evt (fun k=>laws_toOutS.f k l) (l.map cvOut):=by
 unfold laws_toOutS.f
 refine Evt.pos (by omega) (Evt.pos (by omega) ?_)
 rw [Int.toNat_natCast]
 refine fill_loop l z104 z120 cvOut (fun k acc i=>laws_toOutS.l0 k l acc i) ?_ ?_
 ·intro acc i h0 hlt ha r hr
  have hw:wrap64 (i+1)=i+1:=w64 (by omega) (by omega)
  simp only [laws_toOutS.l0,laws_toOut.f,Option.bind_some,hw]
  exact Evt.pos hlt (Evt.pos h0 (Evt.pos (by omega) hr))
 ·intro acc i hi
  simp only [laws_toOutS.l0]
  exact Evt.neg (by omega) (Evt.pure _)
theorem eqOut_refl (p:ByteArray) (n:Int) (t:ByteArray) (tr due:Int):laws_eqOut.f p n t tr due p n t tr due=some true:=by
 simp only [laws_eqOut.f,if_true]
theorem eqOutS_refl (l:List S120) (hl:l.length≤9000000):Evt (fun k=>laws_eqOutS.f k l l) true:=by
 unfold laws_eqOutS.f
 refine Evt.pos rfl (all_loop (l.length:Int) (by omega) (fun k i=>laws_eqOutS.l0 k l l i) ?_ ?_)
 ·intro i h0 hlt ih
  have hw:wrap64 (i+1)=i+1:=w64 (by omega) (by omega)
  simp only [laws_eqOutS.l0,eqOut_refl,Option.bind_some,hw]
  exact Evt.pos hlt (Evt.pos h0 (Evt.pos hlt (Evt.pos (by simp) ih)))
 ·simp only [laws_eqOutS.l0]
  exact Evt.neg (by omega) (Evt.pure _)
theorem okO_map (l:List S104) (h:∀ x ∈ l,okLO x):∀ x ∈ l.map cvOut,okO x:=by
 intro x hx
 obtain ⟨y,hy,rfl⟩:=List.mem_map.1 hx
 exact (h y hy).1
theorem szDiff_ev (a:Int) (b c:ByteArray) (d:Int) (e:ByteArray) (f x:Int) (h0:0≤x) (h1:x≤1048576) (hb:(b.size:Int)≤9223372036854775807) (hc:(c.size:Int)≤9223372036854775807) (he:(e.size:Int)≤9223372036854775807) :
  ∃ r,laws_szDiff.f a b c d e f x=some r∧(r<0∨(0≤r∧r≤x∧True)):=by
 unfold laws_szDiff.f
 refine sz_step h0 h1 (by omega) hb (fun g1=>?_)
 rw [wsub h0 h1 (by omega) hb]
 refine sz_step g1 (by omega) (by omega) hc (fun g2=>?_)
 rw [wsub g1 (by omega) (by omega) hc]
 refine sz_step g2 (by omega) (by omega) he (fun g3=>?_)
 rw [wsub g2 (by omega) (by omega) he]
 exact ⟨_,rfl,.inr ⟨g3,Int.le_refl _,trivial⟩⟩
def okLD (x:S101):Prop:=(x.f1.size:Int)≤9223372036854775807∧(x.f2.size:Int)≤9223372036854775807∧(x.f4.size:Int)≤9223372036854775807
theorem okLD_of {x:S101} (h:wf101 x):okLD x:=by
 obtain ⟨_,h1,h2,_,h4,_⟩:=h
 have g1:x.f1.size≤2 ^ 63 - 1:=h1
 have g2:x.f2.size≤2 ^ 63 - 1:=h2
 have g4:x.f4.size≤2 ^ 63 - 1:=h4
 exact ⟨by omega,by omega,by omega⟩
theorem szDiffS_ev (l:List S101) (hl:l.length≤9223372036854775807) (hx:∀ x ∈ l,okLD x) (left:Int) (h0:0≤left) (h1:left≤1048576):SzR (fun k=>laws_szDiffS.f k l left) left (l.length≤1048576∧∀ i:Int,0≤i→i<(l.length:Int)→True):=by
 refine sz_loop l.length hl (fun _=>True) _ (fun k s i=>laws_szDiffS.l0 k l s i) left h0 h1 (fun k=>rfl) ?_ ?_
 ·intro s i h0 hlt hs0 hs1
  have hw:wrap64 (i+1)=i+1:=w64 (by omega) (by omega)
  have hk:okLD (rd_T101 l i):=by
   unfold rd_T101
   rw [getD_at l _ _ (by omega)]
   exact hx _ (List.getElem_mem _)
  obtain ⟨t,ht,h2⟩:=szDiff_ev (rd_T101 l i).f0 (rd_T101 l i).f1 (rd_T101 l i).f2 (rd_T101 l i).f3 (rd_T101 l i).f4 (rd_T101 l i).f5 s hs0 hs1 hk.1 hk.2.1 hk.2.2
  simp only [laws_szDiffS.l0,ht,Option.bind_some,hw]
  rcases h2 with h2 | ⟨h2,h3,_⟩
  ·exact .inl ⟨-1,by decide,Evt.pos hlt (Evt.pos h0 (Evt.pos h2 (Evt.pure _)))⟩
  ·exact .inr ⟨t,h2,h3,trivial,fun r hr=>Evt.pos hlt (Evt.pos h0 (Evt.neg (by omega) hr))⟩
 ·intro s i hi
  simp only [laws_szDiffS.l0]
  exact Evt.neg (by omega) (Evt.pure _)
def cvDiff (x:S101):S118:=⟨x.f0,x.f1,x.f2,x.f3,x.f4,x.f5⟩
theorem toDiffS_ev (l:List S101) (hl:l.length≤1048576):Evt (fun k=>laws_toDiffS.f k l) (l.map cvDiff):=by
 unfold laws_toDiffS.f
 refine Evt.pos (by omega) (Evt.pos (by omega) ?_)
 rw [Int.toNat_natCast]
 refine fill_loop l z101 z118 cvDiff (fun k acc i=>laws_toDiffS.l0 k l acc i) ?_ ?_
 ·intro acc i h0 hlt ha r hr
  have hw:wrap64 (i+1)=i+1:=w64 (by omega) (by omega)
  simp only [laws_toDiffS.l0,laws_toDiff.f,Option.bind_some,hw]
  exact Evt.pos hlt (Evt.pos h0 (Evt.pos (by omega) hr))
 ·intro acc i hi
  simp only [laws_toDiffS.l0]
  exact Evt.neg (by omega) (Evt.pure _)
theorem eqDiffS_refl (l:List S118) (hl:l.length≤9000000):Evt (fun k=>laws_eqDiffS.f k l l) true:=by
 unfold laws_eqDiffS.f
 refine Evt.pos rfl (all_loop (l.length:Int) (by omega) (fun k i=>laws_eqDiffS.l0 k l l i) ?_ ?_)
 ·intro i h0 hlt ih
  have hw:wrap64 (i+1)=i+1:=w64 (by omega) (by omega)
  simp only [laws_eqDiffS.l0,laws_eqDiff.f,if_true,Option.bind_some,hw]
  exact Evt.pos hlt (Evt.pos h0 (Evt.pos hlt ih))
 ·simp only [laws_eqDiffS.l0]
  exact Evt.neg (by omega) (Evt.pure _)
def partAt (l:List S83) (i:Int):Prop :=
 partB (rd_T83 l i).f0 (rd_T83 l i).f1 (rd_T83 l i).f2 (rd_T83 l i).f3=true∧(0<i→less (rd_T83 l (i - 1)).f0 (rd_T83 l i).f0)
def GateP (n:ByteArray) (d:Int) (p:List S83) (x:List S114) (s:List S152) (m:List S161) (f:List S118) (o:List S120):Prop :=
 (nameB n=true∧(0≤d∧d≤100000)∧(p.length:Int)≤20∧(f.length:Int)≤200)∧(∀ i,0≤i→i<(p.length:Int)→partAt p i)∧(crossB x=true∧bookB s m=true∧outboxB o=true)
noncomputable def gateB (n:ByteArray) (d:Int) (p:List S83) (x:List S114) (s:List S152) (m:List S161) (f:List S118) (o:List S120):Bool:=B (GateP n d p x s m f o)
structure okG (n:ByteArray) (p:List S83) (x:List S114) (s:List S152) (m:List S161) (f:List S118) (o:List S120):Prop where
 qn:(n.size:Int)≤9223372036854775807
 qp:∀ y ∈ p,okP y
 qx:∀ y ∈ x,okX y
 qs:∀ y ∈ s,okK y
 qm:∀ y ∈ m,okS y
 qo:∀ y ∈ o,okO y
 lp:p.length≤1048576
 lx:x.length≤1048576
 ls:s.length≤1048576
 lm:m.length≤1048576
 lf:f.length≤1048576
 lo:o.length≤1048576
theorem specGate_ev (n:ByteArray) (d:Int) (p:List S83) (x:List S114) (s:List S152) (m:List S161) (f:List S118) (o:List S120) (h:okG n p x s m f o) :
  Evt (fun k=>spec_GateRight.f k n d p x s m f o) (gateB n d p x s m f o):=by
 unfold spec_GateRight.f
 have bad:¬ GateP n d p x s m f o→Evt (fun k=>spec_GateRight.j0 k true n d p x s m f o) (gateB n d p x s m f o):=fun h=>by
  apply Evt.succ
  simp only [spec_GateRight.j0,if_true]
  exact (Evt.pure false).same (B_false h).symm
 refine Evt.bind (specName_ev _ h.qn) (Evt.ite (fun g1=>?_) (fun g1=>bad (fun h=>g1 h.1.1)))
 refine Evt.bind (Evt.const (l01Day_ev d)) (Evt.ite (fun g2=>?_) (fun g2=>bad (fun h=>g2 (B_true h.1.2.1))))
 refine Evt.ite (fun g3=>bad (fun h=>by have:=h.1.2.2.1;omega)) (fun g3=>?_)
 refine Evt.bind (specCross_ev _ h.qx) (Evt.ite (fun g4=>?_) (fun g4=>bad (fun h=>g4 h.2.2.1)))
 refine Evt.bind (specBook_ev _ _ h.qs h.qm) (Evt.ite (fun g5=>?_) (fun g5=>bad (fun h=>g5 h.2.2.2.1)))
 refine Evt.ite (fun g6=>bad (fun h=>by have:=h.1.2.2.2;omega)) (fun g6=>?_)
 refine Evt.bind (specOutbox_ev _ h.qo) ?_
 by_cases g7:outboxB o=true
 ·rw [g7]
  simp only [Bool.not_true]
  apply Evt.succ
  simp only [spec_GateRight.j0,Bool.false_eq_true,if_false]
  refine (right_loop (p.length:Int) (by omega) (partAt p) True (fun k i=>spec_GateRight.l0 k i n d p x s m f o) ?_ ?_).same (B_congr ⟨fun h=>⟨⟨g1,B_iff.1 g2,by omega,by omega⟩,h.1,g4,g5,g7⟩,fun h=>⟨h.2.1,trivial⟩⟩)
  ·intro i h0 hlt
   have hk:=okP_at h.qp i hlt h0
   have hw:wrap64 (i+1)=i+1:=w64 (by omega) (by omega)
   have hw1:wrap64 (i - 1)=i - 1:=w64 (by omega) (by omega)
   simp only [spec_GateRight.l0,hw,hw1]
   refine ⟨fun ok r hr=>?_,fun nok=>?_⟩
   ·exact Evt.pos hlt (Evt.pos h0 (Evt.bind (specPart_ev _ _ _ _ hk.1) (Evt.pos ok.1 (Evt.ite (fun hp=>Evt.pos (by omega) (Evt.pos (by omega) (Evt.pos (ok.2 hp) hr))) (fun _=>hr)))))
   ·exact Evt.pos hlt (Evt.pos h0 (Evt.bind (specPart_ev _ _ _ _ hk.1) (Evt.ite (fun hl=>Evt.ite (fun hp=>Evt.pos (by omega) (Evt.pos (by omega) (Evt.neg (fun hb=>nok ⟨hl,fun _=>hb⟩) (Evt.pure _)))) (fun hp=>absurd ⟨hl,fun h=>absurd h hp⟩ nok)) (fun _=>Evt.pure _))))
  ·simp only [spec_GateRight.l0]
   exact Evt.neg (by omega) ((Evt.pure true).same (B_true trivial).symm)
 ·rw [Bool.eq_false_iff.2 g7]
  simp only [Bool.not_false]
  exact bad (fun h=>g7 h.2.2.2.2)
theorem implGate_ev (n:ByteArray) (d:Int) (p:List S83) (x:List S114) (s:List S152) (m:List S161) (f:List S118) (o:List S120) (h:okG n p x s m f o) :
  Evt (fun k=>impl_GateRight.f k n d p x s m f o) (gateB n d p x s m f o):=by
 unfold impl_GateRight.f
 have bad:¬ GateP n d p x s m f o→Evt (fun k=>impl_GateRight.j0 k true n d p x s m f o) (gateB n d p x s m f o):=fun h=>by
  apply Evt.succ
  simp only [impl_GateRight.j0,if_true]
  exact (Evt.pure false).same (B_false h).symm
 refine Evt.ite (fun g3=>bad (fun h=>by have:=h.1.2.2.1;omega)) (fun g3=>?_)
 refine Evt.ite (fun g6=>bad (fun h=>by have:=h.1.2.2.2;omega)) (fun g6=>?_)
 refine Evt.bind (implName_ev _ h.qn) (Evt.ite (fun g1=>?_) (fun g1=>bad (fun h=>g1 h.1.1)))
 refine Evt.bind (Evt.const (isDay_ev d)) ?_
 by_cases g2:0≤d∧d≤100000
 ·rw [B_true g2]
  simp only [Bool.not_true]
  apply Evt.succ
  simp only [impl_GateRight.j0,Bool.false_eq_true,if_false]
  refine (right_loop (p.length:Int) (by omega) (partAt p) (crossB x=true∧bookB s m=true∧outboxB o=true) (fun k i=>impl_GateRight.l0 k p (p.length:Int) i n d p x s m f o) ?_ ?_).same (B_congr ⟨fun h=>⟨⟨g1,g2,by omega,by omega⟩,h.1,h.2⟩,fun h=>h.2⟩)
  ·intro i h0 hlt
   have hk:=okP_at h.qp i hlt h0
   have hw:wrap64 (i+1)=i+1:=w64 (by omega) (by omega)
   have hw1:wrap64 (i - 1)=i - 1:=w64 (by omega) (by omega)
   simp only [impl_GateRight.l0,hw,hw1]
   refine ⟨fun ok r hr=>?_,fun nok=>?_⟩
   ·exact Evt.pos hlt (Evt.pos h0 (Evt.pos hlt (Evt.bind (implPart_ev _ _ _ _ hk.1 hk.2) (Evt.pos ok.1 (Evt.ite (fun hp=>Evt.pos (by omega) (Evt.pos (by omega) (Evt.pos (ok.2 hp) hr))) (fun _=>hr))))))
   ·exact Evt.pos hlt (Evt.pos h0 (Evt.pos hlt (Evt.bind (implPart_ev _ _ _ _ hk.1 hk.2) (Evt.ite (fun hl=>Evt.ite (fun hp=>Evt.pos (by omega) (Evt.pos (by omega) (Evt.neg (fun hb=>nok ⟨hl,fun _=>hb⟩) (Evt.pure _)))) (fun hp=>absurd ⟨hl,fun h=>absurd h hp⟩ nok)) (fun _=>Evt.pure _)))))
  ·simp only [impl_GateRight.l0]
   exact Evt.neg (by omega) (Evt.bind (implCross_ev _ h.qx) (and_ Iff.rfl (fun _=>Evt.bind (implBook_ev _ _ h.qs h.qm) (and_ Iff.rfl (fun _=>Evt.bind (implOutbox_ev _ h.qo) ((Evt.pure _).same (bool_B Iff.rfl)))))))
 ·rw [B_false g2]
  simp only [Bool.not_false]
  exact bad (fun h=>g2 h.1.2.1)
structure okLG (n:ByteArray) (p:List S93) (x:List S96) (s:List S147) (m:List S150) (f:List S101) (o:List S104):Prop where
 qn:(n.size:Int)≤9223372036854775807
 qp:∀ y ∈ p,okLP y
 qx:∀ y ∈ x,okLX y
 qs:∀ y ∈ s,okLK y
 qm:∀ y ∈ m,okL y
 qf:∀ y ∈ f,okLD y
 qo:∀ y ∈ o,okLO y
 lp:p.length≤9223372036854775807
 lx:x.length≤9223372036854775807
 ls:s.length≤9223372036854775807
 lm:m.length≤9223372036854775807
 lf:f.length≤9223372036854775807
 lo:o.length≤9223372036854775807
def szG (n:ByteArray) (p:List S93) (x:List S96) (s:List S147) (m:List S150) (f:List S101) (o:List S104):Prop :=
 ((n.size:Int)≤1048576)∧(p.length≤1048576∧∀ i:Int,0≤i→i<(p.length:Int)→(rd_T93 p i).f3.length≤1048576)∧x.length≤1048576∧s.length≤1048576∧m.length≤1048576∧f.length≤1048576∧o.length≤1048576
theorem szGate_ev (n:ByteArray) (d:Int) (p:List S93) (x:List S96) (s:List S147) (m:List S150) (f:List S101) (o:List S104) (h:okLG n p x s m f o) :
  ∃ t,Evt (fun k=>laws_szGate.f k n d p x s m f o 1048576) t∧(t<0∨szG n p x s m f o):=by
 unfold laws_szGate.f
 rw [wsub (by decide) (by decide) (by omega) h.qn]
 by_cases g0:(1048576:Int) - (n.size:Int)<0
 ·exact ⟨-1,Evt.pos g0 (Evt.pure _),.inl (by decide)⟩
 obtain ⟨t1,e1,q1⟩:=szPartnerS_ev p h.lp h.qp (1048576 - (n.size:Int)) (by omega) (by omega)
 rcases q1 with q1 | ⟨q1,r1,s1⟩
 ·exact ⟨-1,Evt.neg g0 (Evt.bind e1 (Evt.pos q1 (Evt.pure _))),.inl (by decide)⟩
 obtain ⟨t2,e2,q2⟩:=szCrossS_ev x h.lx h.qx t1 q1 (by omega)
 rcases q2 with q2 | ⟨q2,r2,s2⟩
 ·exact ⟨-1,Evt.neg g0 (Evt.bind e1 (Evt.neg (by omega) (Evt.bind e2 (Evt.pos q2 (Evt.pure _))))),.inl (by decide)⟩
 obtain ⟨t3,e3,q3⟩:=szBook_ev s m h.ls h.qs h.lm h.qm t2 q2 (by omega)
 rcases q3 with q3 | ⟨q3,r3,s3⟩
 ·exact ⟨-1,Evt.neg g0 (Evt.bind e1 (Evt.neg (by omega) (Evt.bind e2 (Evt.neg (by omega) (Evt.bind e3 (Evt.pos q3 (Evt.pure _))))))),.inl (by decide)⟩
 obtain ⟨t4,e4,q4⟩:=szDiffS_ev f h.lf h.qf t3 q3 (by omega)
 rcases q4 with q4 | ⟨q4,r4,s4⟩
 ·exact ⟨-1,Evt.neg g0 (Evt.bind e1 (Evt.neg (by omega) (Evt.bind e2 (Evt.neg (by omega) (Evt.bind e3 (Evt.neg (by omega) (Evt.bind e4 (Evt.pos q4 (Evt.pure _))))))))),.inl (by decide)⟩
 obtain ⟨t5,e5,q5⟩:=szOutS_ev o h.lo h.qo t4 q4 (by omega)
 rcases q5 with q5 | ⟨q5,r5,s5⟩
 ·exact ⟨-1,Evt.neg g0 (Evt.bind e1 (Evt.neg (by omega) (Evt.bind e2 (Evt.neg (by omega) (Evt.bind e3 (Evt.neg (by omega) (Evt.bind e4 (Evt.neg (by omega) (Evt.bind e5 (Evt.pos q5 (Evt.pure _))))))))))),.inl (by decide)⟩
 exact ⟨t5,Evt.neg g0 (Evt.bind e1 (Evt.neg (by omega) (Evt.bind e2 (Evt.neg (by omega) (Evt.bind e3 (Evt.neg (by omega) (Evt.bind e4 (Evt.neg (by omega) (Evt.bind e5 (Evt.neg (by omega) (Evt.pure _))))))))))),.inr ⟨by omega,s1,s2.1,s3.1,s3.2,s4.1,s5.1⟩⟩
theorem toGate_ev (n:ByteArray) (d:Int) (p:List S93) (x:List S96) (s:List S147) (m:List S150) (f:List S101) (o:List S104) (h:szG n p x s m f o) :
  Evt (fun k=>laws_toGate.f k n d p x s m f o) (n,d,p.map cvPart,x.map cvCross,s.map cvStock,m.map cvLine,f.map cvDiff,o.map cvOut):=by
 obtain ⟨_,hp,hx,hs,hm,hf,ho⟩:=h
 unfold laws_toGate.f
 exact Evt.bind (toPartnerS_ev p hp.1 hp.2) (Evt.bind (toCrossS_ev x hx) (Evt.bind (toBook_ev s m hs hm) (Evt.bind (toDiffS_ev f hf) (Evt.bind (toOutS_ev o ho) (Evt.pure _)))))
theorem okG_map (n:ByteArray) (p:List S93) (x:List S96) (s:List S147) (m:List S150) (f:List S101) (o:List S104) (h:okLG n p x s m f o) (g:szG n p x s m f o) :
  okG n (p.map cvPart) (x.map cvCross) (s.map cvStock) (m.map cvLine) (f.map cvDiff) (o.map cvOut) where
 qn:=h.qn
 qp:=okP_map p h.qp g.2.1.2
 qx:=okX_map x h.qx
 qs:=okK_map s h.qs
 qm:=okS_map m h.qm
 qo:=okO_map o h.qo
 lp:=by rw [List.length_map];exact g.2.1.1
 lx:=by rw [List.length_map];exact g.2.2.1
 ls:=by rw [List.length_map];exact g.2.2.2.1
 lm:=by rw [List.length_map];exact g.2.2.2.2.1
 lf:=by rw [List.length_map];exact g.2.2.2.2.2.1
 lo:=by rw [List.length_map];exact g.2.2.2.2.2.2
theorem eqGate_refl (n:ByteArray) (d:Int) (p:List S83) (x:List S114) (s:List S152) (m:List S161) (f:List S118) (o:List S120) (h:okG n p x s m f o) :
  Evt (fun k=>laws_eqGate.f k n d p x s m f o n d p x s m f o) true:=by
 unfold laws_eqGate.f
 have:=h.lp;have:=h.lx;have:=h.ls;have:=h.lm;have:=h.lf;have:=h.lo
 exact Evt.pos rfl (Evt.pos rfl (Evt.bind (eqPartnerS_refl p (by omega) h.qp) (Evt.pos rfl (Evt.bind (eqCrossS_refl x (by omega)) (Evt.pos rfl (Evt.bind (eqBook_refl s m (by omega) (by omega)) (Evt.pos rfl (Evt.bind (eqDiffS_refl f (by omega)) (Evt.pos rfl (Evt.bind (eqOutS_refl o (by omega)) (Evt.pos rfl (Evt.pure true))))))))))))
abbrev OX:=S120
abbrev SX:=S157
theorem mn_cases (a b:Int):(a≤b∧mn a b=a)∨(b≤a∧mn a b=b):=by
 unfold mn
 split <;> omega
theorem l01Min_ev (x y:Int):spec_l01Min.f x y=some (mn y x):=by
 unfold spec_l01Min.f
 rcases mn_cases y x with ⟨h1,h2⟩ | ⟨h1,h2⟩
 ·rw [h2]
  by_cases h:x<y
  ·omega
  ·rw [if_neg h]
 ·rw [h2]
  by_cases h:x<y
  ·rw [if_pos h]
  ·rw [if_neg h]
   congr 1
   omega
noncomputable def tstep (d:Int) (a:List OX × List SX × List OX) (o:OX):List OX × List SX × List OX :=
 if o.f4>d then (a.1++[o],a.2.1,a.2.2)
 else if o.f3=5 then (a.1,a.2.1,a.2.2++[o])
 else (a.1++[⟨o.f0,o.f1,o.f2,wrap64 (o.f3+1),mn (wrap64 (d+wrap64 (3 * wrap64 (o.f3+1)))) 100000⟩],a.2.1++[⟨o.f0,o.f1,o.f2⟩],a.2.2)
noncomputable def tall (d:Int) (l:List OX):List OX × List SX × List OX:=l.foldl (tstep d) ([],[],[])
theorem tall_at (d:Int) (l:List OX) (i:Int) (h0:0≤i) (h1:i<(l.length:Int)):tall d (l.take (i+1).toNat)=tstep d (tall d (l.take i.toNat)) (rd_T120 l i):=by
 have hi:i.toNat<l.length:=by omega
 have e:rd_T120 l i=l[i.toNat]:=by
  unfold rd_T120
  exact getD_at l _ _ hi
 rw [e]
 unfold tall
 rw [show (i+1).toNat=i.toNat+1 by omega,List.take_succ_eq_append_getElem hi,List.foldl_append]
 rfl
theorem tall_len (d:Int) (l:List OX):(tall d l).1.length≤l.length∧(tall d l).2.1.length≤l.length∧(tall d l).2.2.length≤l.length:=by
 have key:∀ (l:List OX) (a:List OX × List SX × List OX) (n:Nat),a.1.length≤n→a.2.1.length≤n→a.2.2.length≤n→(l.foldl (tstep d) a).1.length≤n+l.length∧(l.foldl (tstep d) a).2.1.length≤n+l.length∧(l.foldl (tstep d) a).2.2.length≤n+l.length:=by
  intro l
  induction l with
  | nil=>intro a n h1 h2 h3;exact ⟨by simpa using h1,by simpa using h2,by simpa using h3⟩
  | cons o l ih =>
   intro a n h1 h2 h3
   have hs:(tstep d a o).1.length≤n+1∧(tstep d a o).2.1.length≤n+1∧(tstep d a o).2.2.length≤n+1:=by
    unfold tstep
    split
    ·exact ⟨by simp;omega,by simp;omega,by simp;omega⟩
    ·split
     ·exact ⟨by simp;omega,by simp;omega,by simp;omega⟩
     ·exact ⟨by simp;omega,by simp;omega,by simp;omega⟩
   have:=ih (tstep d a o) (n+1) hs.1 hs.2.1 hs.2.2
   simp only [List.foldl_cons,List.length_cons]
   omega
 have:=key l ([],[],[]) 0 (by simp) (by simp) (by simp)
 simpa [tall] using this
theorem tall_ok (d:Int) (l:List OX) (h:∀ x ∈ l,okO x):∀ x ∈ (tall d l).1,okO x:=by
 have key:∀ (l:List OX) (a:List OX × List SX × List OX),(∀ x ∈ l,okO x)→(∀ x ∈ a.1,okO x)→∀ x ∈ (l.foldl (tstep d) a).1,okO x:=by
  intro l
  induction l with
  | nil=>intro a _ h;exact h
  | cons o l ih =>
   intro a h1 h2
   refine ih (tstep d a o) (fun x hx=>h1 x (List.mem_cons_of_mem _ hx)) ?_
   have ho:okO o:=h1 o (List.mem_cons_self ..)
   intro x hx
   unfold tstep at hx
   split at hx
   ·rcases List.mem_append.1 hx with hx|hx
    ·exact h2 x hx
    ·rw [List.mem_singleton.1 hx];exact ho
   ·split at hx
    ·exact h2 x hx
    ·rcases List.mem_append.1 hx with hx|hx
     ·exact h2 x hx
     ·rw [List.mem_singleton.1 hx];exact ho
 exact key l ([],[],[]) h (by simp)
noncomputable def tickR (l:List OX) (d:Int):List OX × List SX × List OX × Int :=
 if (l.length:Int)>400 then ([],[],[],2) else if outboxB l=true∧(0≤d∧d≤100000) then ((tall d l).1,(tall d l).2.1,(tall d l).2.2,0) else ([],[],[],1)
theorem specTick_l (l:List OX) (d:Int) (hl:(l.length:Int)≤400):Evt (fun k=>spec_OutboxTick.l0 k l d 0 [] [] [] 0) ((tall d l).1,(tall d l).2.1,(tall d l).2.2,0):=by
 have h:=up_loop (l.length:Int) (fun k (s:List OX × List SX × List OX) i=>spec_OutboxTick.l0 k l d i s.1 s.2.1 s.2.2 0) (fun i=>tall d (l.take i.toNat)) (fun _=>((tall d l).1,(tall d l).2.1,(tall d l).2.2,(0:Int))) ?_ ?_ 0 (Int.le_refl _) (by omega)
 ·simpa [tall] using h
 ·intro i h0 hlt ih
  have hw:wrap64 (i+1)=i+1:=w64 (by omega) (by omega)
  have e:=tall_at d l i h0 hlt
  have hn:=tall_len d (l.take i.toNat)
  have hm:(l.take i.toNat).length≤400:=by simp;omega
  simp only [spec_OutboxTick.l0,hw,l01Min_ev,Option.bind_some]
  rw [e] at ih
  unfold tstep at ih
  refine Evt.pos hlt (Evt.pos h0 (Evt.ite (fun g1=>?_) (fun g1=>?_)))
  ·rw [if_pos g1] at ih
   exact Evt.pos (by omega) ih
  ·rw [if_neg g1] at ih
   refine Evt.ite (fun g2=>?_) (fun g2=>?_)
   ·rw [if_pos g2] at ih
    exact Evt.pos (by omega) ih
   ·rw [if_neg g2] at ih
    exact Evt.pos (by omega) (Evt.pos (by omega) ih)
 ·simp only [spec_OutboxTick.l0]
  exact Evt.neg (by omega) ((Evt.pure _).same (by simp))
theorem implTick_l (l:List OX) (d:Int) (hl:(l.length:Int)≤400):Evt (fun k=>impl_OutboxTick.l0 k d l (l.length:Int) 0 [] [] [] 0) ((tall d l).1,(tall d l).2.1,(tall d l).2.2,0):=by
 have h:=up_loop (l.length:Int) (fun k (s:List OX × List SX × List OX) i=>impl_OutboxTick.l0 k d l (l.length:Int) i s.1 s.2.1 s.2.2 0) (fun i=>tall d (l.take i.toNat)) (fun _=>((tall d l).1,(tall d l).2.1,(tall d l).2.2,(0:Int))) ?_ ?_ 0 (Int.le_refl _) (by omega)
 ·simpa [tall] using h
 ·intro i h0 hlt ih
  have hw:wrap64 (i+1)=i+1:=w64 (by omega) (by omega)
  have e:=tall_at d l i h0 hlt
  have hn:=tall_len d (l.take i.toNat)
  have hm:(l.take i.toNat).length≤400:=by simp;omega
  simp only [impl_OutboxTick.l0]
  rw [e] at ih
  unfold tstep at ih
  refine Evt.pos hlt (Evt.pos h0 (Evt.pos hlt (Evt.ite (fun g1=>?_) (fun g1=>?_))))
  ·rw [if_neg (show ¬ (rd_T120 l i).f4>d by omega)] at ih
   apply Evt.succ
   simp only [impl_OutboxTick.j1,hw]
   by_cases g2:(rd_T120 l i).f3=5
   ·rw [if_pos g2] at ih
    exact Evt.pos (by simpa using g2) (Evt.pos (by omega) ih)
   ·rw [if_neg g2] at ih
    exact Evt.neg (by simpa using g2) (Evt.pos g1 (Evt.pos (by omega) (Evt.pos (by omega) ih)))
  ·rw [if_pos (show (rd_T120 l i).f4>d by omega)] at ih
   apply Evt.succ
   simp only [impl_OutboxTick.j1,hw]
   exact Evt.neg (by simp) (Evt.neg g1 (Evt.pos (by omega) ih))
 ·simp only [impl_OutboxTick.l0]
  exact Evt.neg (by omega) ((Evt.pure _).same (by simp))
theorem specTick_ev (l:List OX) (d:Int) (hs:∀ x ∈ l,okO x):Evt (fun k=>spec_OutboxTick.f k l d) (tickR l d):=by
 unfold spec_OutboxTick.f tickR
 by_cases hn:(l.length:Int)>400
 ·rw [if_pos hn]
  simp only [spec_l12Wrong.f,Option.bind_some]
  exact Evt.pos hn (Evt.pure _)
 ·rw [if_neg hn]
  refine Evt.neg hn (Evt.bind (specOutbox_ev l hs) ?_)
  have bad:¬ (outboxB l=true∧(0≤d∧d≤100000))→Evt (fun k=>spec_OutboxTick.j0 k l d true) (if outboxB l=true∧(0≤d∧d≤100000) then ((tall d l).1,(tall d l).2.1,(tall d l).2.2,0) else ([],[],[],1)):=fun h=>by
   rw [if_neg h]
   apply Evt.succ
   simp only [spec_OutboxTick.j0,if_true,spec_l12Wrong.f,Option.bind_some]
   exact Evt.pure _
  refine Evt.ite (fun h1=>?_) (fun h1=>bad (fun h=>h1 h.1))
  rw [l01Day_ev]
  simp only [Option.bind_some]
  by_cases h2:0≤d∧d≤100000
  ·rw [B_true h2,if_pos ⟨h1,h2⟩]
   apply Evt.succ
   simp only [spec_OutboxTick.j0,Bool.not_true,Bool.false_eq_true,if_false]
   exact specTick_l l d (by omega)
  ·rw [B_false h2]
   exact bad (fun h=>h2 h.2)
theorem implTick_ev (l:List OX) (d:Int) (hs:∀ x ∈ l,okO x):Evt (fun k=>impl_OutboxTick.f k l d) (tickR l d):=by
 have hc:Evt (fun k=>impl_outboxCode.f k l) (if (l.length:Int)>400 then 2 else if outboxB l=true then 0 else 1):=by
  unfold impl_outboxCode.f impl_Out_150.f
  simp only [Option.bind_some]
  by_cases hn:(l.length:Int)>400
  ·rw [if_pos hn]
   exact Evt.pos (decide_eq_true hn) (Evt.pure _)
  ·rw [if_neg hn]
   refine Evt.neg (by simpa using hn) (Evt.bind (implOutbox_ev l hs) ?_)
   by_cases h1:outboxB l=true
   ·simp only [if_pos h1];exact Evt.pure _
   ·simp only [if_neg h1];exact Evt.pure _
 unfold impl_OutboxTick.f tickR
 refine Evt.bind hc ?_
 by_cases hn:(l.length:Int)>400
 ·rw [if_pos hn,if_pos hn]
  exact Evt.neg (by decide) (Evt.pure _)
 ·rw [if_neg hn,if_neg hn]
  by_cases h1:outboxB l=true
  ·rw [if_pos h1]
   simp only [if_true,isDay_ev,Option.bind_some]
   by_cases h2:0≤d∧d≤100000
   ·rw [B_true h2,if_pos ⟨h1,h2⟩]
    exact Evt.pos rfl (implTick_l l d (by omega))
   ·rw [B_false h2,if_neg (fun h=>h2 h.2)]
    exact Evt.neg (by decide) (Evt.pure _)
  ·rw [if_neg h1,if_neg (fun h=>h1 h.1)]
   exact Evt.neg (by decide) (Evt.pure _)
theorem tickR_ok (l:List OX) (d:Int) (h:∀ x ∈ l,okO x):∀ x ∈ (tickR l d).1,okO x:=by
 unfold tickR
 split
 ·simp
 ·split
  ·exact tall_ok d l h
  ·simp
end Go.Proofs.YtomoflpgdbjojaaGreat.QN
namespace Go.Proofs.YtomoflpgdbjojaaGreat.QN
open Go.RowKit Go.Proofs.YtomoflpgdbjojaaGreatW.PrintWords Go.Proofs.YtomoflpgdbjojaaGreat.Ev0
theorem one_size (v:Int):(strOfNums [v]).size=1:=rfl
theorem markText_l (d:Nat):∀ (a:Int) (x:ByteArray),0≤a→a<10 ^ d→a≤9223372036854775807→(x.size:Int)+d≤1000000000000000000→∃ r,Evt (fun k=>laws_markText.l0 k a x) r:=by
 induction d with
 | zero =>
  intro a x h0 h1 ha hx
  obtain rfl:a=0:=by have:(10:Int) ^ 0=1:=rfl;omega
  refine ⟨(⟨#[109]⟩:ByteArray)++x,Evt.succ ?_⟩
  simp only [laws_markText.l0]
  exact Evt.neg (by omega) (Evt.pos (by omega) (Evt.pure _))
 | succ d ih =>
  intro a x h0 h1 ha hx
  by_cases h:a>0
  ·have e:a.tdiv 10=a / 10:=Int.tdiv_eq_ediv_of_nonneg h0
   have hp:(10:Int) ^ (d+1)=10 ^ d * 10:=Int.pow_succ ..
   have hw:wrap64 (a.tdiv 10)=a / 10:=by rw [e];exact w64 (by omega) (by omega)
   obtain ⟨r,hr⟩:=ih (a / 10) (strOfNums [(wrap64 (48+(Int.tmod a 10))) % 256]++x) (by omega) (by omega) (by omega) (by rw [ByteArray.size_append,one_size];omega)
   refine ⟨r,Evt.succ ?_⟩
   simp only [laws_markText.l0,Option.bind_some,hw,one_size]
   exact Evt.pos h (Evt.pos (by omega) hr)
  ·obtain rfl:a=0:=by omega
   refine ⟨(⟨#[109]⟩:ByteArray)++x,Evt.succ ?_⟩
   simp only [laws_markText.l0]
   exact Evt.neg (by omega) (Evt.pos (by omega) (Evt.pure _))
theorem markText_ex (a:Int) (ha:a≤9223372036854775807):∃ r,Evt (fun k=>laws_markText.f k a) r:=by
 unfold laws_markText.f
 by_cases h:a≤0
 ·exact ⟨_,Evt.pos h (Evt.pure _)⟩
 ·obtain ⟨r,hr⟩:=markText_l 19 a ⟨#[]⟩ (by omega) (by omega) ha (by decide)
  exact ⟨r,Evt.neg h hr⟩
noncomputable def mt (a:Int):ByteArray:=@dite _ (∃ r,Evt (fun k=>laws_markText.f k a) r) (Classical.propDecidable _) (fun h=>Classical.choose h) (fun _=>⟨#[]⟩)
theorem mt_ev (a:Int) (ha:a≤9223372036854775807):Evt (fun k=>laws_markText.f k a) (mt a):=by
 unfold mt
 rw [dif_pos (markText_ex a ha)]
 exact Classical.choose_spec (markText_ex a ha)
theorem lin (c m i:Int):c+m * i+m=c+m * (i+1):=by rw [Int.mul_add,Int.mul_one,Int.add_assoc]
theorem mark_loop {α:Type} (n:Nat) (l:List α) (hl:l.length=n) (m c:Int) (g:Int→α) (F:Nat→List α→Int→Int→Option (Int × List α))
  (step:∀ acc i,0≤i→i<(n:Int)→acc.length=n→∀ r,Evt (fun k=>F k (acc.set i.toNat (g (c+m * i))) (c+m * i+m) (i+1)) r→Evt (fun k=>F (k+1) acc (c+m * i) i) r)
  (stop:∀ acc s,acc.length=n→Evt (fun k=>F (k+1) acc s (n:Int)) (s,acc)) :
  Evt (fun k=>F k l c 0) (c+m * n,(List.range n).map fun (j:Nat)=>g (c+m * (j:Int))):=by
 have h:=up_loop (n:Int) (fun k (s:List α × Int) i=>F k s.1 s.2 i) (fun i=>((List.range i.toNat).map (fun (j:Nat)=>g (c+m * (j:Int)))++l.drop i.toNat,c+m * i)) (fun _=>(c+m * (n:Int),(List.range n).map fun (j:Nat)=>g (c+m * (j:Int)))) ?_ ?_ 0 (Int.le_refl _) (by omega)
 ·simpa using h
 ·intro i h0 hlt ih
  have hi:i.toNat<l.length:=by omega
  refine step _ i h0 hlt (by simp;omega) _ ?_
  have e:((List.range i.toNat).map (fun (j:Nat)=>g (c+m * (j:Int)))++l.drop i.toNat).set i.toNat (g (c+m * i))=(List.range (i+1).toNat).map (fun (j:Nat)=>g (c+m * (j:Int)))++l.drop (i+1).toNat:=by
   rw [List.set_append_right _ _ (by simp),List.length_map,List.length_range,Nat.sub_self,List.drop_eq_getElem_cons hi,List.set_cons_zero,show (i+1).toNat=i.toNat+1 by omega]
   rw [List.range_succ,List.map_append,List.append_assoc]
   congr 1
   rw [List.map_singleton,List.singleton_append,show ((i.toNat:Nat):Int)=i by omega]
  rw [e,lin]
  exact ih
 ·refine (stop _ _ (by simp;omega)).same ?_
  have:l.drop n=[]:=by rw [← hl];exact List.drop_length
  simp [this]
theorem at_map {α:Type} (n:Nat) (g:Nat→α) (z:α) (i:Int) (h0:0≤i) (h:i<(n:Int)):((List.range n).map g).getD i.toNat z=g i.toNat:=by
 rw [getD_at _ _ _ (by simp;omega)]
 simp
theorem held_loop (n:Nat) (m c:Int) (F:Nat→Int→Int→Option Int)
  (step:∀ i,0≤i→i<(n:Int)→∀ r,Evt (fun k=>F k (c+m * i+m) (i+1)) r→Evt (fun k=>F (k+1) (c+m * i) i) r)
  (stop:∀ s,Evt (fun k=>F (k+1) s (n:Int)) s):Evt (fun k=>F k c 0) (c+m * n):=by
 have h:=up_loop (n:Int) (fun k (s:Int) i=>F k s i) (fun i=>c+m * i) (fun _=>c+m * (n:Int)) ?_ ?_ 0 (Int.le_refl _) (by omega)
 ·simpa using h
 ·intro i h0 hlt ih
  refine step i h0 hlt _ ?_
  rw [lin]
  exact ih
 ·exact stop _
end Go.Proofs.YtomoflpgdbjojaaGreat.QN
