-- Merged by a program of this session (wip/tool/pack.py) out of its own texts for this claim.
import Derived.Laws.Bits64
import Derived.Lib.Bytealg
import Derived.Test.YtomoflpgdbjojaaGreatKFnExactGatePartner24
namespace Go.Proofs.YtomoflpgdbjojaaGreat.QO
open Go.RowKit Go.Proofs.YtomoflpgdbjojaaGreat Go.Proofs.YtomoflpgdbjojaaGreatW.PrintWords Go.Proofs.YtomoflpgdbjojaaGreat.Ev0
theorem szLine_ev (a b:ByteArray) (n:Int) (i:ByteArray) (o s g c t:Int) (h0:0≤t) (h1:t≤1048576) (ha:(a.size:Int)≤9223372036854775807) (hb:(b.size:Int)≤9223372036854775807) (hi:(i.size:Int)≤9223372036854775807) :
  ∃ r,laws_szOrderLine.f a b n i o s g c t=some r∧(r<0∨(0≤r∧r≤t∧True)):=by
 unfold laws_szOrderLine.f
 refine sz_step h0 h1 (by omega) ha (fun g1=>?_)
 rw [wsub h0 h1 (by omega) ha]
 refine sz_step g1 (by omega) (by omega) hb (fun g2=>?_)
 rw [wsub g1 (by omega) (by omega) hb]
 refine sz_step g2 (by omega) (by omega) hi (fun g3=>?_)
 rw [wsub g2 (by omega) (by omega) hi]
 exact ⟨_,rfl,.inr ⟨g3,Int.le_refl _,trivial⟩⟩
def okL (x:S150):Prop:=(x.f0.size:Int)≤9223372036854775807∧(x.f1.size:Int)≤9223372036854775807∧(x.f3.size:Int)≤9223372036854775807
theorem okL_of {x:S150} (h:wf150 x):okL x:=by
 obtain ⟨h0,h1,_,h3,_⟩:=h
 have g0:x.f0.size≤2 ^ 63 - 1:=h0
 have g1:x.f1.size≤2 ^ 63 - 1:=h1
 have g3:x.f3.size≤2 ^ 63 - 1:=h3
 exact ⟨by omega,by omega,by omega⟩
theorem szLineS_ev (l:List S150) (hl:l.length≤9223372036854775807) (hx:∀ x ∈ l,okL x) (left:Int) (h0:0≤left) (h1:left≤1048576):SzR (fun k=>laws_szOrderLineS.f k l left) left (l.length≤1048576∧∀ i:Int,0≤i→i<(l.length:Int)→True):=by
 refine sz_loop l.length hl (fun _=>True) _ (fun k s i=>laws_szOrderLineS.l0 k l s i) left h0 h1 (fun k=>rfl) ?_ ?_
 ·intro s i h0 hlt hs0 hs1
  have hw:wrap64 (i+1)=i+1:=w64 (by omega) (by omega)
  have hk:okL (rd_T150 l i):=by
   unfold rd_T150
   rw [getD_at l _ _ (by omega)]
   exact hx _ (List.getElem_mem _)
  obtain ⟨t,ht,h2⟩:=szLine_ev (rd_T150 l i).f0 (rd_T150 l i).f1 (rd_T150 l i).f2 (rd_T150 l i).f3 (rd_T150 l i).f4 (rd_T150 l i).f5 (rd_T150 l i).f6 (rd_T150 l i).f7 s hs0 hs1 hk.1 hk.2.1 hk.2.2
  simp only [laws_szOrderLineS.l0,ht,Option.bind_some,hw]
  rcases h2 with h2 | ⟨h2,h3,_⟩
  ·exact .inl ⟨-1,by decide,Evt.pos hlt (Evt.pos h0 (Evt.pos h2 (Evt.pure _)))⟩
  ·exact .inr ⟨t,h2,h3,trivial,fun r hr=>Evt.pos hlt (Evt.pos h0 (Evt.neg (by omega) hr))⟩
 ·intro s i hi
  simp only [laws_szOrderLineS.l0]
  exact Evt.neg (by omega) (Evt.pure _)
def cvLine (x:S150):S161:=⟨x.f0,x.f1,x.f2,x.f3,x.f4,x.f5,x.f6,x.f7⟩
theorem toLineS_ev (l:List S150) (hl:l.length≤1048576):Evt (fun k=>laws_toOrderLineS.f k l) (l.map cvLine):=by
 unfold laws_toOrderLineS.f
 refine Evt.pos (by omega) (Evt.pos (by omega) ?_)
 rw [Int.toNat_natCast]
 refine fill_loop l z150 z161 cvLine (fun k acc i=>laws_toOrderLineS.l0 k l acc i) ?_ ?_
 ·intro acc i h0 hlt ha r hr
  have hw:wrap64 (i+1)=i+1:=w64 (by omega) (by omega)
  simp only [laws_toOrderLineS.l0,laws_toOrderLine.f,Option.bind_some,hw]
  exact Evt.pos hlt (Evt.pos h0 (Evt.pos (by omega) hr))
 ·intro acc i hi
  simp only [laws_toOrderLineS.l0]
  exact Evt.neg (by omega) (Evt.pure _)
theorem eqLine_refl (a b:ByteArray) (n:Int) (i:ByteArray) (o s g c:Int):laws_eqOrderLine.f a b n i o s g c a b n i o s g c=some true:=by
 simp only [laws_eqOrderLine.f,if_true]
theorem eqLineS_refl (l:List S161) (hl:l.length≤9000000):Evt (fun k=>laws_eqOrderLineS.f k l l) true:=by
 unfold laws_eqOrderLineS.f
 refine Evt.pos rfl (all_loop (l.length:Int) (by omega) (fun k i=>laws_eqOrderLineS.l0 k l l i) ?_ ?_)
 ·intro i h0 hlt ih
  have hw:wrap64 (i+1)=i+1:=w64 (by omega) (by omega)
  simp only [laws_eqOrderLineS.l0,eqLine_refl,Option.bind_some,hw]
  exact Evt.pos hlt (Evt.pos h0 (Evt.pos hlt (Evt.pos (by simp) ih)))
 ·simp only [laws_eqOrderLineS.l0]
  exact Evt.neg (by omega) (Evt.pure _)
theorem okS_map (l:List S150) (h:∀ x ∈ l,okL x):∀ x ∈ l.map cvLine,okS x:=by
 intro x hx
 obtain ⟨y,hy,rfl⟩:=List.mem_map.1 hx
 exact h y hy
def okK (x:S152):Prop:=(x.f0.size:Int)≤9223372036854775807
theorem okK_at {l:List S152} (h:∀ x ∈ l,okK x) (i:Int) (h1:i<(l.length:Int)) (h0:0≤i):okK (rd_T152 l i):=by
 unfold rd_T152
 rw [getD_at l _ _ (by omega)]
 exact h _ (List.getElem_mem _)
def stockAt (l:List S152) (i:Int):Prop :=
 nameB (rd_T152 l i).f0=true∧(0≤(rd_T152 l i).f1∧(rd_T152 l i).f1≤1000000000)∧(0<i→less (rd_T152 l (i - 1)).f0 (rd_T152 l i).f0)
def BookP (l:List S152) (m:List S161):Prop:=(l.length:Int)≤100∧(∀ i,0≤i→i<(l.length:Int)→stockAt l i)∧linesB m=true
noncomputable def bookB (l:List S152) (m:List S161):Bool:=B (BookP l m)
theorem specBook_ev (l:List S152) (m:List S161) (hs:∀ x ∈ l,okK x) (hm:∀ x ∈ m,okS x):Evt (fun k=>spec_BookRight.f k l m) (bookB l m):=by
 unfold spec_BookRight.f
 have bad:¬ BookP l m→Evt (fun k=>spec_BookRight.j0 k true l m) (bookB l m):=fun h=>by
  apply Evt.succ
  simp only [spec_BookRight.j0,if_true]
  exact (Evt.pure false).same (B_false h).symm
 by_cases hn:(l.length:Int)>100
 ·exact Evt.pos hn (bad (fun h=>by have:=h.1;omega))
 ·refine Evt.neg hn (Evt.bind (specLines_ev m hm) ?_)
  by_cases hl:linesB m=true
  ·rw [hl]
   simp only [Bool.not_true]
   apply Evt.succ
   simp only [spec_BookRight.j0,Bool.false_eq_true,if_false]
   refine (right_loop (l.length:Int) (by omega) (stockAt l) True (fun k i=>spec_BookRight.l0 k i l m) ?_ ?_).same (B_congr ⟨fun h=>⟨by omega,h.1,hl⟩,fun h=>⟨h.2.1,trivial⟩⟩)
   ·intro i h0 hlt
    have hk:=okK_at hs i hlt h0
    have hw:wrap64 (i+1)=i+1:=w64 (by omega) (by omega)
    have hw1:wrap64 (i - 1)=i - 1:=w64 (by omega) (by omega)
    simp only [spec_BookRight.l0,hw,hw1]
    refine ⟨fun ok r hr=>?_,fun nok=>?_⟩
    ·exact Evt.pos hlt (Evt.pos h0 (Evt.bind (specName_ev _ hk) (Evt.pos ok.1 (Evt.neg (by have:=ok.2.1.1;omega) (Evt.neg (by have:=ok.2.1.2;omega) (Evt.ite (fun hp=>Evt.pos (by omega) (Evt.pos (by omega) (Evt.pos (ok.2.2 hp) hr))) (fun _=>hr)))))))
    ·exact Evt.pos hlt (Evt.pos h0 (Evt.bind (specName_ev _ hk) (Evt.ite (fun g1=>Evt.ite (fun _=>Evt.pure _) (fun g2=>Evt.ite (fun _=>Evt.pure _) (fun g3=>Evt.ite (fun hp=>Evt.pos (by omega) (Evt.pos (by omega) (Evt.neg (fun hb=>nok ⟨g1,⟨by omega,by omega⟩,fun _=>hb⟩) (Evt.pure _)))) (fun hp=>absurd ⟨g1,⟨by omega,by omega⟩,fun h=>absurd h hp⟩ nok)))) (fun _=>Evt.pure _))))
   ·simp only [spec_BookRight.l0]
    exact Evt.neg (by omega) ((Evt.pure true).same (B_true trivial).symm)
  ·rw [Bool.eq_false_iff.2 hl]
   simp only [Bool.not_false]
   exact bad (fun h=>hl h.2.2)
theorem implBook_ev (l:List S152) (m:List S161) (hs:∀ x ∈ l,okK x) (hm:∀ x ∈ m,okS x):Evt (fun k=>impl_BookRight.f k l m) (bookB l m):=by
 unfold impl_BookRight.f
 by_cases hn:(l.length:Int)>100
 ·exact Evt.pos hn ((Evt.pure false).same (B_false (fun h=>by have:=h.1;omega)).symm)
 ·refine Evt.neg hn ?_
  refine (right_loop (l.length:Int) (by omega) (stockAt l) (linesB m=true) (fun k i=>impl_BookRight.l0 k l (l.length:Int) i l m) ?_ ?_).same (B_congr ⟨fun h=>⟨by omega,h⟩,fun h=>h.2⟩)
  ·intro i h0 hlt
   have hk:=okK_at hs i hlt h0
   have hw:wrap64 (i+1)=i+1:=w64 (by omega) (by omega)
   have hw1:wrap64 (i - 1)=i - 1:=w64 (by omega) (by omega)
   simp only [impl_BookRight.l0,hw,hw1,within_ev,Option.bind_some]
   refine ⟨fun ok r hr=>?_,fun nok=>?_⟩
   ·exact Evt.pos hlt (Evt.pos h0 (Evt.pos hlt (Evt.bind (implName_ev _ hk) (Evt.pos ok.1 (Evt.pos (B_true ok.2.1) (Evt.ite (fun hp=>Evt.pos (by omega) (Evt.pos (by omega) (Evt.pos (ok.2.2 hp) hr))) (fun _=>hr)))))))
   ·exact Evt.pos hlt (Evt.pos h0 (Evt.pos hlt (Evt.bind (implName_ev _ hk) (Evt.ite (fun g1=>Evt.ite (fun g2=>Evt.ite (fun hp=>Evt.pos (by omega) (Evt.pos (by omega) (Evt.neg (fun hb=>nok ⟨g1,B_iff.1 g2,fun _=>hb⟩) (Evt.pure _)))) (fun hp=>absurd ⟨g1,B_iff.1 g2,fun h=>absurd h hp⟩ nok)) (fun _=>Evt.pure _)) (fun _=>Evt.pure _)))))
  ·simp only [impl_BookRight.l0]
   refine Evt.neg (by omega) (Evt.bind (implLines_ev m hm) ((Evt.pure _).same ?_))
   exact bool_B Iff.rfl
theorem szStock_ev (p:ByteArray) (n x:Int) (h0:0≤x) (h1:x≤1048576) (hp:(p.size:Int)≤9223372036854775807):∃ r,laws_szStock.f p n x=some r∧(r<0∨(0≤r∧r≤x∧True)):=by
 unfold laws_szStock.f
 refine sz_step h0 h1 (by omega) hp (fun g1=>?_)
 rw [wsub h0 h1 (by omega) hp]
 exact ⟨_,rfl,.inr ⟨g1,Int.le_refl _,trivial⟩⟩
def okLK (x:S147):Prop:=(x.f0.size:Int)≤9223372036854775807
theorem okLK_of {x:S147} (h:wf147 x):okLK x:=by
 have g0:x.f0.size≤2 ^ 63 - 1:=h.1
 show (x.f0.size:Int)≤_
 omega
theorem szStockS_ev (l:List S147) (hl:l.length≤9223372036854775807) (hx:∀ x ∈ l,okLK x) (left:Int) (h0:0≤left) (h1:left≤1048576):SzR (fun k=>laws_szStockS.f k l left) left (l.length≤1048576∧∀ i:Int,0≤i→i<(l.length:Int)→True):=by
 refine sz_loop l.length hl (fun _=>True) _ (fun k s i=>laws_szStockS.l0 k l s i) left h0 h1 (fun k=>rfl) ?_ ?_
 ·intro s i h0 hlt hs0 hs1
  have hw:wrap64 (i+1)=i+1:=w64 (by omega) (by omega)
  have hk:okLK (rd_T147 l i):=by
   unfold rd_T147
   rw [getD_at l _ _ (by omega)]
   exact hx _ (List.getElem_mem _)
  obtain ⟨t,ht,h2⟩:=szStock_ev (rd_T147 l i).f0 (rd_T147 l i).f1 s hs0 hs1 hk
  simp only [laws_szStockS.l0,ht,Option.bind_some,hw]
  rcases h2 with h2 | ⟨h2,h3,_⟩
  ·exact .inl ⟨-1,by decide,Evt.pos hlt (Evt.pos h0 (Evt.pos h2 (Evt.pure _)))⟩
  ·exact .inr ⟨t,h2,h3,trivial,fun r hr=>Evt.pos hlt (Evt.pos h0 (Evt.neg (by omega) hr))⟩
 ·intro s i hi
  simp only [laws_szStockS.l0]
  exact Evt.neg (by omega) (Evt.pure _)
def cvStock (x:S147):S152:=⟨x.f0,x.f1⟩
theorem toStockS_ev (l:List S147) (hl:l.length≤1048576):Evt (fun k=>laws_toStockS.f k l) (l.map cvStock):=by
 unfold laws_toStockS.f
 refine Evt.pos (by omega) (Evt.pos (by omega) ?_)
 rw [Int.toNat_natCast]
 refine fill_loop l z147 z152 cvStock (fun k acc i=>laws_toStockS.l0 k l acc i) ?_ ?_
 ·intro acc i h0 hlt ha r hr
  have hw:wrap64 (i+1)=i+1:=w64 (by omega) (by omega)
  simp only [laws_toStockS.l0,laws_toStock.f,Option.bind_some,hw]
  exact Evt.pos hlt (Evt.pos h0 (Evt.pos (by omega) hr))
 ·intro acc i hi
  simp only [laws_toStockS.l0]
  exact Evt.neg (by omega) (Evt.pure _)
theorem eqStockS_refl (l:List S152) (hl:l.length≤9000000):Evt (fun k=>laws_eqStockS.f k l l) true:=by
 unfold laws_eqStockS.f
 refine Evt.pos rfl (all_loop (l.length:Int) (by omega) (fun k i=>laws_eqStockS.l0 k l l i) ?_ ?_)
 ·intro i h0 hlt ih
  have hw:wrap64 (i+1)=i+1:=w64 (by omega) (by omega)
  simp only [laws_eqStockS.l0,laws_eqStock.f,if_true,Option.bind_some,hw]
  exact Evt.pos hlt (Evt.pos h0 (Evt.pos hlt ih))
 ·simp only [laws_eqStockS.l0]
  exact Evt.neg (by omega) (Evt.pure _)
theorem okK_map (l:List S147) (h:∀ x ∈ l,okLK x):∀ x ∈ l.map cvStock,okK x:=by
 intro x hx
 obtain ⟨y,hy,rfl⟩:=List.mem_map.1 hx
 exact h y hy
theorem szBook_ev (l:List S147) (m:List S150) (hl:l.length≤9223372036854775807) (hx:∀ x ∈ l,okLK x) (hm:m.length≤9223372036854775807) (hy:∀ x ∈ m,okL x) (left:Int) (h0:0≤left) (h1:left≤1048576) :
  SzR (fun k=>laws_szBook.f k l m left) left (l.length≤1048576∧m.length≤1048576):=by
 obtain ⟨t,ht,h2⟩:=szStockS_ev l hl hx left h0 h1
 rcases h2 with h2 | ⟨h2,h3,h4,_⟩
 ·exact ⟨-1,Evt.bind ht (Evt.pos h2 (Evt.pure _)),.inl (by decide)⟩
 ·obtain ⟨u,hu,g2⟩:=szLineS_ev m hm hy t h2 (by omega)
  rcases g2 with g2 | ⟨g2,g3,g4,_⟩
  ·exact ⟨-1,Evt.bind ht (Evt.neg (by omega) (Evt.bind hu (Evt.pos g2 (Evt.pure _)))),.inl (by decide)⟩
  ·exact ⟨u,Evt.bind ht (Evt.neg (by omega) (Evt.bind hu (Evt.neg (by omega) (Evt.pure _)))),.inr ⟨g2,by omega,h4,g4⟩⟩
theorem toBook_ev (l:List S147) (m:List S150) (hl:l.length≤1048576) (hm:m.length≤1048576):Evt (fun k=>laws_toBook.f k l m) (l.map cvStock,m.map cvLine) :=
 Evt.bind (toStockS_ev l hl) (Evt.bind (toLineS_ev m hm) (Evt.pure _))
theorem eqBook_refl (l:List S152) (m:List S161) (hl:l.length≤9000000) (hm:m.length≤9000000):Evt (fun k=>laws_eqBook.f k l m l m) true :=
 Evt.bind (eqStockS_refl l hl) (Evt.pos rfl (Evt.bind (eqLineS_refl m hm) (Evt.pos rfl (Evt.pure _))))
theorem szOut_ev (p:ByteArray) (n:Int) (t:ByteArray) (tr due x:Int) (h0:0≤x) (h1:x≤1048576) (hp:(p.size:Int)≤9223372036854775807) (ht:(t.size:Int)≤9223372036854775807) :
  ∃ r,laws_szOut.f p n t tr due x=some r∧(r<0∨(0≤r∧r≤x∧True)):=by
 unfold laws_szOut.f
 refine sz_step h0 h1 (by omega) hp (fun g1=>?_)
 rw [wsub h0 h1 (by omega) hp]
 refine sz_step g1 (by omega) (by omega) ht (fun g2=>?_)
 rw [wsub g1 (by omega) (by omega) ht]
 exact ⟨_,rfl,.inr ⟨g2,Int.le_refl _,trivial⟩⟩
def okLO (x:S104):Prop:=(x.f0.size:Int)≤9223372036854775807∧(x.f2.size:Int)≤9223372036854775807
theorem okLO_of {x:S104} (h:wf104 x):okLO x:=by
 obtain ⟨h0,_,h2,_⟩:=h
 have g0:x.f0.size≤2 ^ 63 - 1:=h0
 have g2:x.f2.size≤2 ^ 63 - 1:=h2
 exact ⟨by omega,by omega⟩
theorem szOutS_ev (l:List S104) (hl:l.length≤9223372036854775807) (hx:∀ x ∈ l,okLO x) (left:Int) (h0:0≤left) (h1:left≤1048576):SzR (fun k=>laws_szOutS.f k l left) left (l.length≤1048576∧∀ i:Int,0≤i→i<(l.length:Int)→True):=by
 refine sz_loop l.length hl (fun _=>True) _ (fun k s i=>laws_szOutS.l0 k l s i) left h0 h1 (fun k=>rfl) ?_ ?_
 ·intro s i h0 hlt hs0 hs1
  have hw:wrap64 (i+1)=i+1:=w64 (by omega) (by omega)
  have hk:okLO (rd_T104 l i):=by
   unfold rd_T104
   rw [getD_at l _ _ (by omega)]
   exact hx _ (List.getElem_mem _)
  obtain ⟨t,ht,h2⟩:=szOut_ev (rd_T104 l i).f0 (rd_T104 l i).f1 (rd_T104 l i).f2 (rd_T104 l i).f3 (rd_T104 l i).f4 s hs0 hs1 hk.1 hk.2
  simp only [laws_szOutS.l0,ht,Option.bind_some,hw]
  rcases h2 with h2 | ⟨h2,h3,_⟩
  ·exact .inl ⟨-1,by decide,Evt.pos hlt (Evt.pos h0 (Evt.pos h2 (Evt.pure _)))⟩
  ·exact .inr ⟨t,h2,h3,trivial,fun r hr=>Evt.pos hlt (Evt.pos h0 (Evt.neg (by omega) hr))⟩
 ·intro s i hi
  simp only [laws_szOutS.l0]
  exact Evt.neg (by omega) (Evt.pure _)
def cvOut (x:S104):S120:=⟨x.f0,x.f1,x.f2,x.f3,x.f4⟩
theorem toOutS_ev (l:List S104) (hl:l.length≤1048576):Evt (fun k=>laws_toOutS.f k l) (l.map cvOut):=by
 unfold laws_toOutS.f
 refine Evt.pos (by omega) (Evt.pos (by omega) ?_)
 rw [Int.toNat_natCast]
 refine fill_loop l z104 z120 cvOut (fun k acc i=>laws_toOutS.l0 k l acc i) ?_ ?_
 ·intro acc i h0 hlt ha r hr
  have hw:wrap64 (i+1)=i+1:=w64 (by omega) (by omega)
  simp only [laws_toOutS.l0,laws_toOut.f,Option.bind_some,hw]
  exact Evt.pos hlt (Evt.pos h0 (Evt.pos (by omega) hr))
 ·intro acc i hi
  simp only [laws_toOutS.l0]
  exact Evt.neg (by omega) (Evt.pure _)
theorem eqOut_refl (p:ByteArray) (n:Int) (t:ByteArray) (tr due:Int):laws_eqOut.f p n t tr due p n t tr due=some true:=by
 simp only [laws_eqOut.f,if_true]
theorem eqOutS_refl (l:List S120) (hl:l.length≤9000000):Evt (fun k=>laws_eqOutS.f k l l) true:=by
 unfold laws_eqOutS.f
 refine Evt.pos rfl (all_loop (l.length:Int) (by omega) (fun k i=>laws_eqOutS.l0 k l l i) ?_ ?_)
 ·intro i h0 hlt ih
  have hw:wrap64 (i+1)=i+1:=w64 (by omega) (by omega)
  simp only [laws_eqOutS.l0,eqOut_refl,Option.bind_some,hw]
  exact Evt.pos hlt (Evt.pos h0 (Evt.pos hlt (Evt.pos (by simp) ih)))
 ·simp only [laws_eqOutS.l0]
  exact Evt.neg (by omega) (Evt.pure _)
theorem okO_map (l:List S104) (h:∀ x ∈ l,okLO x):∀ x ∈ l.map cvOut,okO x:=by
 intro x hx
 obtain ⟨y,hy,rfl⟩:=List.mem_map.1 hx
 exact (h y hy).1
theorem szDiff_ev (a:Int) (b c:ByteArray) (d:Int) (e:ByteArray) (f x:Int) (h0:0≤x) (h1:x≤1048576) (hb:(b.size:Int)≤9223372036854775807) (hc:(c.size:Int)≤9223372036854775807) (he:(e.size:Int)≤9223372036854775807) :
  ∃ r,laws_szDiff.f a b c d e f x=some r∧(r<0∨(0≤r∧r≤x∧True)):=by
 unfold laws_szDiff.f
 refine sz_step h0 h1 (by omega) hb (fun g1=>?_)
 rw [wsub h0 h1 (by omega) hb]
 refine sz_step g1 (by omega) (by omega) hc (fun g2=>?_)
 rw [wsub g1 (by omega) (by omega) hc]
 refine sz_step g2 (by omega) (by omega) he (fun g3=>?_)
 rw [wsub g2 (by omega) (by omega) he]
 exact ⟨_,rfl,.inr ⟨g3,Int.le_refl _,trivial⟩⟩
def okLD (x:S101):Prop:=(x.f1.size:Int)≤9223372036854775807∧(x.f2.size:Int)≤9223372036854775807∧(x.f4.size:Int)≤9223372036854775807
theorem okLD_of {x:S101} (h:wf101 x):okLD x:=by
 obtain ⟨_,h1,h2,_,h4,_⟩:=h
 have g1:x.f1.size≤2 ^ 63 - 1:=h1
 have g2:x.f2.size≤2 ^ 63 - 1:=h2
 have g4:x.f4.size≤2 ^ 63 - 1:=h4
 exact ⟨by omega,by omega,by omega⟩
theorem szDiffS_ev (l:List S101) (hl:l.length≤9223372036854775807) (hx:∀ x ∈ l,okLD x) (left:Int) (h0:0≤left) (h1:left≤1048576):SzR (fun k=>laws_szDiffS.f k l left) left (l.length≤1048576∧∀ i:Int,0≤i→i<(l.length:Int)→True):=by
 refine sz_loop l.length hl (fun _=>True) _ (fun k s i=>laws_szDiffS.l0 k l s i) left h0 h1 (fun k=>rfl) ?_ ?_
 ·intro s i h0 hlt hs0 hs1
  have hw:wrap64 (i+1)=i+1:=w64 (by omega) (by omega)
  have hk:okLD (rd_T101 l i):=by
   unfold rd_T101
   rw [getD_at l _ _ (by omega)]
   exact hx _ (List.getElem_mem _)
  obtain ⟨t,ht,h2⟩:=szDiff_ev (rd_T101 l i).f0 (rd_T101 l i).f1 (rd_T101 l i).f2 (rd_T101 l i).f3 (rd_T101 l i).f4 (rd_T101 l i).f5 s hs0 hs1 hk.1 hk.2.1 hk.2.2
  simp only [laws_szDiffS.l0,ht,Option.bind_some,hw]
  rcases h2 with h2 | ⟨h2,h3,_⟩
  ·exact .inl ⟨-1,by decide,Evt.pos hlt (Evt.pos h0 (Evt.pos h2 (Evt.pure _)))⟩
  ·exact .inr ⟨t,h2,h3,trivial,fun r hr=>Evt.pos hlt (Evt.pos h0 (Evt.neg (by omega) hr))⟩
 ·intro s i hi
  simp only [laws_szDiffS.l0]
  exact Evt.neg (by omega) (Evt.pure _)
def cvDiff (x:S101):S118:=⟨x.f0,x.f1,x.f2,x.f3,x.f4,x.f5⟩
theorem toDiffS_ev (l:List S101) (hl:l.length≤1048576):Evt (fun k=>laws_toDiffS.f k l) (l.map cvDiff):=by
 unfold laws_toDiffS.f
 refine Evt.pos (by omega) (Evt.pos (by omega) ?_)
 rw [Int.toNat_natCast]
 refine fill_loop l z101 z118 cvDiff (fun k acc i=>laws_toDiffS.l0 k l acc i) ?_ ?_
 ·intro acc i h0 hlt ha r hr
  have hw:wrap64 (i+1)=i+1:=w64 (by omega) (by omega)
  simp only [laws_toDiffS.l0,laws_toDiff.f,Option.bind_some,hw]
  exact Evt.pos hlt (Evt.pos h0 (Evt.pos (by omega) hr))
 ·intro acc i hi
  simp only [laws_toDiffS.l0]
  exact Evt.neg (by omega) (Evt.pure _)
theorem eqDiffS_refl (l:List S118) (hl:l.length≤9000000):Evt (fun k=>laws_eqDiffS.f k l l) true:=by
 unfold laws_eqDiffS.f
 refine Evt.pos rfl (all_loop (l.length:Int) (by omega) (fun k i=>laws_eqDiffS.l0 k l l i) ?_ ?_)
 ·intro i h0 hlt ih
  have hw:wrap64 (i+1)=i+1:=w64 (by omega) (by omega)
  simp only [laws_eqDiffS.l0,laws_eqDiff.f,if_true,Option.bind_some,hw]
  exact Evt.pos hlt (Evt.pos h0 (Evt.pos hlt ih))
 ·simp only [laws_eqDiffS.l0]
  exact Evt.neg (by omega) (Evt.pure _)
def partAt (l:List S83) (i:Int):Prop :=
 partB (rd_T83 l i).f0 (rd_T83 l i).f1 (rd_T83 l i).f2 (rd_T83 l i).f3=true∧(0<i→less (rd_T83 l (i - 1)).f0 (rd_T83 l i).f0)
def GateP (n:ByteArray) (d:Int) (p:List S83) (x:List S114) (s:List S152) (m:List S161) (f:List S118) (o:List S120):Prop :=
 (nameB n=true∧(0≤d∧d≤100000)∧(p.length:Int)≤20∧(f.length:Int)≤200)∧(∀ i,0≤i→i<(p.length:Int)→partAt p i)∧(crossB x=true∧bookB s m=true∧outboxB o=true)
noncomputable def gateB (n:ByteArray) (d:Int) (p:List S83) (x:List S114) (s:List S152) (m:List S161) (f:List S118) (o:List S120):Bool:=B (GateP n d p x s m f o)
structure okG (n:ByteArray) (p:List S83) (x:List S114) (s:List S152) (m:List S161) (f:List S118) (o:List S120):Prop where
 qn:(n.size:Int)≤9223372036854775807
 qp:∀ y ∈ p,okP y
 qx:∀ y ∈ x,okX y
 qs:∀ y ∈ s,okK y
 qm:∀ y ∈ m,okS y
 qo:∀ y ∈ o,okO y
 lp:p.length≤1048576
 lx:x.length≤1048576
 ls:s.length≤1048576
 lm:m.length≤1048576
 lf:f.length≤1048576
 lo:o.length≤1048576
theorem specGate_ev (n:ByteArray) (d:Int) (p:List S83) (x:List S114) (s:List S152) (m:List S161) (f:List S118) (o:List S120) (h:okG n p x s m f o) :
  Evt (fun k=>spec_GateRight.f k n d p x s m f o) (gateB n d p x s m f o):=by
 unfold spec_GateRight.f
 have bad:¬ GateP n d p x s m f o→Evt (fun k=>spec_GateRight.j0 k true n d p x s m f o) (gateB n d p x s m f o):=fun h=>by
  apply Evt.succ
  simp only [spec_GateRight.j0,if_true]
  exact (Evt.pure false).same (B_false h).symm
 refine Evt.bind (specName_ev _ h.qn) (Evt.ite (fun g1=>?_) (fun g1=>bad (fun h=>g1 h.1.1)))
 refine Evt.bind (Evt.const (l01Day_ev d)) (Evt.ite (fun g2=>?_) (fun g2=>bad (fun h=>g2 (B_true h.1.2.1))))
 refine Evt.ite (fun g3=>bad (fun h=>by have:=h.1.2.2.1;omega)) (fun g3=>?_)
 refine Evt.bind (specCross_ev _ h.qx) (Evt.ite (fun g4=>?_) (fun g4=>bad (fun h=>g4 h.2.2.1)))
 refine Evt.bind (specBook_ev _ _ h.qs h.qm) (Evt.ite (fun g5=>?_) (fun g5=>bad (fun h=>g5 h.2.2.2.1)))
 refine Evt.ite (fun g6=>bad (fun h=>by have:=h.1.2.2.2;omega)) (fun g6=>?_)
 refine Evt.bind (specOutbox_ev _ h.qo) ?_
 by_cases g7:outboxB o=true
 ·rw [g7]
  simp only [Bool.not_true]
  apply Evt.succ
  simp only [spec_GateRight.j0,Bool.false_eq_true,if_false]
  refine (right_loop (p.length:Int) (by omega) (partAt p) True (fun k i=>spec_GateRight.l0 k i n d p x s m f o) ?_ ?_).same (B_congr ⟨fun h=>⟨⟨g1,B_iff.1 g2,by omega,by omega⟩,h.1,g4,g5,g7⟩,fun h=>⟨h.2.1,trivial⟩⟩)
  ·intro i h0 hlt
   have hk:=okP_at h.qp i hlt h0
   have hw:wrap64 (i+1)=i+1:=w64 (by omega) (by omega)
   have hw1:wrap64 (i - 1)=i - 1:=w64 (by omega) (by omega)
   simp only [spec_GateRight.l0,hw,hw1]
   refine ⟨fun ok r hr=>?_,fun nok=>?_⟩
   ·exact Evt.pos hlt (Evt.pos h0 (Evt.bind (specPart_ev _ _ _ _ hk.1) (Evt.pos ok.1 (Evt.ite (fun hp=>Evt.pos (by omega) (Evt.pos (by omega) (Evt.pos (ok.2 hp) hr))) (fun _=>hr)))))
   ·exact Evt.pos hlt (Evt.pos h0 (Evt.bind (specPart_ev _ _ _ _ hk.1) (Evt.ite (fun hl=>Evt.ite (fun hp=>Evt.pos (by omega) (Evt.pos (by omega) (Evt.neg (fun hb=>nok ⟨hl,fun _=>hb⟩) (Evt.pure _)))) (fun hp=>absurd ⟨hl,fun h=>absurd h hp⟩ nok)) (fun _=>Evt.pure _))))
  ·simp only [spec_GateRight.l0]
   exact Evt.neg (by omega) ((Evt.pure true).same (B_true trivial).symm)
 ·rw [Bool.eq_false_iff.2 g7]
  simp only [Bool.not_false]
  exact bad (fun h=>g7 h.2.2.2.2)
theorem implGate_ev (n:ByteArray) (d:Int) (p:List S83) (x:List S114) (s:List S152) (m:List S161) (f:List S118) (o:List S120) (h:okG n p x s m f o) :
  Evt (fun k=>impl_GateRight.f k n d p x s m f o) (gateB n d p x s m f o):=by
 unfold impl_GateRight.f
 have bad:¬ GateP n d p x s m f o→Evt (fun k=>impl_GateRight.j0 k true n d p x s m f o) (gateB n d p x s m f o):=fun h=>by
  apply Evt.succ
  simp only [impl_GateRight.j0,if_true]
  exact (Evt.pure false).same (B_false h).symm
 refine Evt.ite (fun g3=>bad (fun h=>by have:=h.1.2.2.1;omega)) (fun g3=>?_)
 refine Evt.ite (fun g6=>bad (fun h=>by have:=h.1.2.2.2;omega)) (fun g6=>?_)
 refine Evt.bind (implName_ev _ h.qn) (Evt.ite (fun g1=>?_) (fun g1=>bad (fun h=>g1 h.1.1)))
 refine Evt.bind (Evt.const (isDay_ev d)) ?_
 by_cases g2:0≤d∧d≤100000
 ·rw [B_true g2]
  simp only [Bool.not_true]
  apply Evt.succ
  simp only [impl_GateRight.j0,Bool.false_eq_true,if_false]
  refine (right_loop (p.length:Int) (by omega) (partAt p) (crossB x=true∧bookB s m=true∧outboxB o=true) (fun k i=>impl_GateRight.l0 k p (p.length:Int) i n d p x s m f o) ?_ ?_).same (B_congr ⟨fun h=>⟨⟨g1,g2,by omega,by omega⟩,h.1,h.2⟩,fun h=>h.2⟩)
  ·intro i h0 hlt
   have hk:=okP_at h.qp i hlt h0
   have hw:wrap64 (i+1)=i+1:=w64 (by omega) (by omega)
   have hw1:wrap64 (i - 1)=i - 1:=w64 (by omega) (by omega)
   simp only [impl_GateRight.l0,hw,hw1]
   refine ⟨fun ok r hr=>?_,fun nok=>?_⟩
   ·exact Evt.pos hlt (Evt.pos h0 (Evt.pos hlt (Evt.bind (implPart_ev _ _ _ _ hk.1 hk.2) (Evt.pos ok.1 (Evt.ite (fun hp=>Evt.pos (by omega) (Evt.pos (by omega) (Evt.pos (ok.2 hp) hr))) (fun _=>hr))))))
   ·exact Evt.pos hlt (Evt.pos h0 (Evt.pos hlt (Evt.bind (implPart_ev _ _ _ _ hk.1 hk.2) (Evt.ite (fun hl=>Evt.ite (fun hp=>Evt.pos (by omega) (Evt.pos (by omega) (Evt.neg (fun hb=>nok ⟨hl,fun _=>hb⟩) (Evt.pure _)))) (fun hp=>absurd ⟨hl,fun h=>absurd h hp⟩ nok)) (fun _=>Evt.pure _)))))
  ·simp only [impl_GateRight.l0]
   exact Evt.neg (by omega) (Evt.bind (implCross_ev _ h.qx) (and_ Iff.rfl (fun _=>Evt.bind (implBook_ev _ _ h.qs h.qm) (and_ Iff.rfl (fun _=>Evt.bind (implOutbox_ev _ h.qo) ((Evt.pure _).same (bool_B Iff.rfl)))))))
 ·rw [B_false g2]
  simp only [Bool.not_false]
  exact bad (fun h=>g2 h.1.2.1)
structure okLG (n:ByteArray) (p:List S93) (x:List S96) (s:List S147) (m:List S150) (f:List S101) (o:List S104):Prop where
 qn:(n.size:Int)≤9223372036854775807
 qp:∀ y ∈ p,okLP y
 qx:∀ y ∈ x,okLX y
 qs:∀ y ∈ s,okLK y
 qm:∀ y ∈ m,okL y
 qf:∀ y ∈ f,okLD y
 qo:∀ y ∈ o,okLO y
 lp:p.length≤9223372036854775807
 lx:x.length≤9223372036854775807
 ls:s.length≤9223372036854775807
 lm:m.length≤9223372036854775807
 lf:f.length≤9223372036854775807
 lo:o.length≤9223372036854775807
def szG (n:ByteArray) (p:List S93) (x:List S96) (s:List S147) (m:List S150) (f:List S101) (o:List S104):Prop :=
 ((n.size:Int)≤1048576)∧(p.length≤1048576∧∀ i:Int,0≤i→i<(p.length:Int)→(rd_T93 p i).f3.length≤1048576)∧x.length≤1048576∧s.length≤1048576∧m.length≤1048576∧f.length≤1048576∧o.length≤1048576
theorem szGate_ev (n:ByteArray) (d:Int) (p:List S93) (x:List S96) (s:List S147) (m:List S150) (f:List S101) (o:List S104) (h:okLG n p x s m f o) :
  ∃ t,Evt (fun k=>laws_szGate.f k n d p x s m f o 1048576) t∧(t<0∨szG n p x s m f o):=by
 unfold laws_szGate.f
 rw [wsub (by decide) (by decide) (by omega) h.qn]
 by_cases g0:(1048576:Int) - (n.size:Int)<0
 ·exact ⟨-1,Evt.pos g0 (Evt.pure _),.inl (by decide)⟩
 obtain ⟨t1,e1,q1⟩:=szPartnerS_ev p h.lp h.qp (1048576 - (n.size:Int)) (by omega) (by omega)
 rcases q1 with q1 | ⟨q1,r1,s1⟩
 ·exact ⟨-1,Evt.neg g0 (Evt.bind e1 (Evt.pos q1 (Evt.pure _))),.inl (by decide)⟩
 obtain ⟨t2,e2,q2⟩:=szCrossS_ev x h.lx h.qx t1 q1 (by omega)
 rcases q2 with q2 | ⟨q2,r2,s2⟩
 ·exact ⟨-1,Evt.neg g0 (Evt.bind e1 (Evt.neg (by omega) (Evt.bind e2 (Evt.pos q2 (Evt.pure _))))),.inl (by decide)⟩
 obtain ⟨t3,e3,q3⟩:=szBook_ev s m h.ls h.qs h.lm h.qm t2 q2 (by omega)
 rcases q3 with q3 | ⟨q3,r3,s3⟩
 ·exact ⟨-1,Evt.neg g0 (Evt.bind e1 (Evt.neg (by omega) (Evt.bind e2 (Evt.neg (by omega) (Evt.bind e3 (Evt.pos q3 (Evt.pure _))))))),.inl (by decide)⟩
 obtain ⟨t4,e4,q4⟩:=szDiffS_ev f h.lf h.qf t3 q3 (by omega)
 rcases q4 with q4 | ⟨q4,r4,s4⟩
 ·exact ⟨-1,Evt.neg g0 (Evt.bind e1 (Evt.neg (by omega) (Evt.bind e2 (Evt.neg (by omega) (Evt.bind e3 (Evt.neg (by omega) (Evt.bind e4 (Evt.pos q4 (Evt.pure _))))))))),.inl (by decide)⟩
 obtain ⟨t5,e5,q5⟩:=szOutS_ev o h.lo h.qo t4 q4 (by omega)
 rcases q5 with q5 | ⟨q5,r5,s5⟩
 ·exact ⟨-1,Evt.neg g0 (Evt.bind e1 (Evt.neg (by omega) (Evt.bind e2 (Evt.neg (by omega) (Evt.bind e3 (Evt.neg (by omega) (Evt.bind e4 (Evt.neg (by omega) (Evt.bind e5 (Evt.pos q5 (Evt.pure _))))))))))),.inl (by decide)⟩
 exact ⟨t5,Evt.neg g0 (Evt.bind e1 (Evt.neg (by omega) (Evt.bind e2 (Evt.neg (by omega) (Evt.bind e3 (Evt.neg (by omega) (Evt.bind e4 (Evt.neg (by omega) (Evt.bind e5 (Evt.neg (by omega) (Evt.pure _))))))))))),.inr ⟨by omega,s1,s2.1,s3.1,s3.2,s4.1,s5.1⟩⟩
theorem toGate_ev (n:ByteArray) (d:Int) (p:List S93) (x:List S96) (s:List S147) (m:List S150) (f:List S101) (o:List S104) (h:szG n p x s m f o) :
  Evt (fun k=>laws_toGate.f k n d p x s m f o) (n,d,p.map cvPart,x.map cvCross,s.map cvStock,m.map cvLine,f.map cvDiff,o.map cvOut):=by
 obtain ⟨_,hp,hx,hs,hm,hf,ho⟩:=h
 unfold laws_toGate.f
 exact Evt.bind (toPartnerS_ev p hp.1 hp.2) (Evt.bind (toCrossS_ev x hx) (Evt.bind (toBook_ev s m hs hm) (Evt.bind (toDiffS_ev f hf) (Evt.bind (toOutS_ev o ho) (Evt.pure _)))))
theorem okG_map (n:ByteArray) (p:List S93) (x:List S96) (s:List S147) (m:List S150) (f:List S101) (o:List S104) (h:okLG n p x s m f o) (g:szG n p x s m f o) :
  okG n (p.map cvPart) (x.map cvCross) (s.map cvStock) (m.map cvLine) (f.map cvDiff) (o.map cvOut) where
 qn:=h.qn
 qp:=okP_map p h.qp g.2.1.2
 qx:=okX_map x h.qx
 qs:=okK_map s h.qs
 qm:=okS_map m h.qm
 qo:=okO_map o h.qo
 lp:=by rw [List.length_map];exact g.2.1.1
 lx:=by rw [List.length_map];exact g.2.2.1
 ls:=by rw [List.length_map];exact g.2.2.2.1
 lm:=by rw [List.length_map];exact g.2.2.2.2.1
 lf:=by rw [List.length_map];exact g.2.2.2.2.2.1
 lo:=by rw [List.length_map];exact g.2.2.2.2.2.2
theorem eqGate_refl (n:ByteArray) (d:Int) (p:List S83) (x:List S114) (s:List S152) (m:List S161) (f:List S118) (o:List S120) (h:okG n p x s m f o) :
  Evt (fun k=>laws_eqGate.f k n d p x s m f o n d p x s m f o) true:=by
 unfold laws_eqGate.f
 have:=h.lp;have:=h.lx;have:=h.ls;have:=h.lm;have:=h.lf;have:=h.lo
 exact Evt.pos rfl (Evt.pos rfl (Evt.bind (eqPartnerS_refl p (by omega) h.qp) (Evt.pos rfl (Evt.bind (eqCrossS_refl x (by omega)) (Evt.pos rfl (Evt.bind (eqBook_refl s m (by omega) (by omega)) (Evt.pos rfl (Evt.bind (eqDiffS_refl f (by omega)) (Evt.pos rfl (Evt.bind (eqOutS_refl o (by omega)) (Evt.pos rfl (Evt.pure true))))))))))))
theorem take_next (p:List S83) (i:Int) (h0:0≤i) (h1:i<(p.length:Int)):p.take i.toNat++[rd_T83 p i]=p.take (i+1).toNat:=by
 have hi:i.toNat<p.length:=by omega
 rw [show (i+1).toNat=i.toNat+1 by omega,List.take_succ_eq_append_getElem hi]
 unfold rd_T83
 rw [getD_at p _ _ hi]
theorem specCopy_ev (n:ByteArray) (d:Int) (p:List S83) (x:List S114) (s:List S152) (m:List S161) (f:List S118) (o:List S120) (h:okG n p x s m f o) (hf:f.length≤1048576) :
  Evt (fun k=>spec_l13Copy.f k n d p x s m f o) (n,d,p,x,s,m,f,o):=by
 have:=h.lp;have:=h.lx;have:=h.ls;have:=h.lm;have:=h.lo
 unfold spec_l13Copy.f
 have q:=up_loop (p.length:Int) (fun k (a:List S83) i=>spec_l13Copy.l0 k i n d p x s m f o n d a x s m f o) (fun i=>p.take i.toNat) (fun _=>(n,d,p,x,s,m,f,o)) ?_ ?_ 0 (Int.le_refl _) (by omega)
 ·simpa using q
 ·intro i h0 hlt ih
  have hk:=okP_at h.qp i hlt h0
  have hw:wrap64 (i+1)=i+1:=w64 (by omega) (by omega)
  have hl:(p.take i.toNat).length≤1048576:=by simp;omega
  rw [← take_next p i h0 hlt] at ih
  simp only [spec_l13Copy.l0,spec_l07Copy.f,Option.bind_some,List.length_nil,Nat.zero_add,List.nil_append,hw]
  exact Evt.pos hlt (Evt.pos h0 (Evt.bind (Evt.pos (by have:=hk.2;omega) (Evt.pure _)) (Evt.pos (by omega) ih)))
 ·simp only [spec_l13Copy.l0,spec_l10Copy.f,Option.bind_some,List.length_nil,Nat.zero_add,List.nil_append]
  exact Evt.neg (by omega) (Evt.pos (by omega) (Evt.bind (Evt.pos (by omega) (Evt.pos (by omega) (Evt.pure _))) (Evt.pos (by omega) (Evt.pos (by omega) ((Evt.pure _).same (by simp))))))
theorem implCopy_ev (n:ByteArray) (d:Int) (p:List S83) (x:List S114) (s:List S152) (m:List S161) (f:List S118) (o:List S120) (h:okG n p x s m f o) (hf:f.length≤1048576) :
  Evt (fun k=>impl_ownGate.f k n d p x s m f o) (n,d,p,x,s,m,f,o):=by
 have:=h.lp;have:=h.lx;have:=h.ls;have:=h.lm;have:=h.lo
 unfold impl_ownGate.f
 have q:=up_loop (p.length:Int) (fun k (a:List S83) i=>impl_ownGate.l0 k a p (p.length:Int) i n d p x s m f o) (fun i=>p.take i.toNat) (fun _=>(n,d,p,x,s,m,f,o)) ?_ ?_ 0 (Int.le_refl _) (by omega)
 ·simpa using q
 ·intro i h0 hlt ih
  have hk:=okP_at h.qp i hlt h0
  have hw:wrap64 (i+1)=i+1:=w64 (by omega) (by omega)
  have hl:(p.take i.toNat).length≤1048576:=by simp;omega
  rw [← take_next p i h0 hlt] at ih
  simp only [impl_ownGate.l0,impl_ownPartner.f,slices_Clone_implSeen.f,hw]
  exact Evt.pos hlt (Evt.pos h0 (Evt.pos hlt (Evt.bind (Evt.bind (Evt.pos (by have:=hk.2;omega) (Evt.pure _)) (Evt.pure _)) (Evt.pos (by omega) ih))))
 ·simp only [impl_ownGate.l0,impl_ownBook.f,slices_Clone_implCross.f,slices_Clone_implStock.f,slices_Clone_implOrderLine.f,slices_Clone_implDiff.f,slices_Clone_implOut.f]
  exact Evt.neg (by omega) (Evt.bind (Evt.pos (by omega) (Evt.pure _)) (Evt.bind (Evt.bind (Evt.pos (by omega) (Evt.pure _)) (Evt.bind (Evt.pos (by omega) (Evt.pure _)) (Evt.pure _))) (Evt.bind (Evt.pos (by omega) (Evt.pure _)) (Evt.bind (Evt.pos (by omega) (Evt.pure _)) ((Evt.pure _).same (by simp))))))
end Go.Proofs.YtomoflpgdbjojaaGreat.QO
namespace Go.Proofs.YtomoflpgdbjojaaGreat.QO
open Go.RowKit Go.Proofs.YtomoflpgdbjojaaGreatW.PrintWords Go.Proofs.YtomoflpgdbjojaaGreat.Ev0
theorem mid_eq (lo hi:Int) (h0:0≤lo) (h1:lo<hi) (h2:hi≤1000000000):wrap64 ((IntKind.u64.wrap (wrap64 (lo+hi))) / 2)=(lo+hi) / 2:=by
 rw [w64 (x:=lo+hi) (by omega) (by omega),IntKind.wrap_u64,w64 (by omega) (by omega)]
 omega
theorem bin_loop {ρ:Type} (n:Int) (hn:0≤n) (neg:Int→Prop) (F:Nat→Int→Int→Option ρ) (R:Int→ρ)
  (step:∀ lo hi,0≤lo→lo<hi→hi≤n→(neg ((lo+hi) / 2)→∀ r,Evt (fun k=>F k ((lo+hi) / 2+1) hi) r→Evt (fun k=>F (k+1) lo hi) r)∧(¬ neg ((lo+hi) / 2)→∀ r,Evt (fun k=>F k lo ((lo+hi) / 2)) r→Evt (fun k=>F (k+1) lo hi) r))
  (stop:∀ lo,0≤lo→lo≤n→Evt (fun k=>F (k+1) lo lo) (R lo)) (mono:∀ i j,0≤i→i≤j→j<n→neg j→neg i) :
  ∃ p,0≤p∧p≤n∧Evt (fun k=>F k 0 n) (R p)∧(∀ i,0≤i→i<p→neg i)∧(∀ i,p≤i→i<n→¬ neg i):=by
 have key:∀ (d:Nat) (lo hi:Int),0≤lo→lo≤hi→hi≤n→hi - lo≤d→(∀ i,0≤i→i<lo→neg i)→(∀ i,hi≤i→i<n→¬ neg i) →
   ∃ p,0≤p∧p≤n∧Evt (fun k=>F k lo hi) (R p)∧(∀ i,0≤i→i<p→neg i)∧(∀ i,p≤i→i<n→¬ neg i):=by
  intro d
  induction d with
  | zero =>
   intro lo hi h0 h1 h2 hd hl hh
   obtain rfl:lo=hi:=by omega
   exact ⟨lo,h0,h2,(stop lo h0 h2).succ,hl,hh⟩
  | succ d ih =>
   intro lo hi h0 h1 h2 hd hl hh
   by_cases hlt:lo<hi
   ·obtain ⟨s1,s2⟩:=step lo hi h0 hlt h2
    by_cases hg:neg ((lo+hi) / 2)
    ·obtain ⟨p,p0,p1,hp,q1,q2⟩:=ih ((lo+hi) / 2+1) hi (by omega) (by omega) h2 (by omega) (fun i i0 i1=>mono i ((lo+hi) / 2) i0 (by omega) (by omega) hg) hh
     exact ⟨p,p0,p1,(s1 hg _ hp).succ,q1,q2⟩
    ·obtain ⟨p,p0,p1,hp,q1,q2⟩:=ih lo ((lo+hi) / 2) h0 (by omega) (by omega) (by omega) hl (fun i i0 i1 hi'=>hg (mono ((lo+hi) / 2) i (by omega) i0 i1 hi'))
     exact ⟨p,p0,p1,(s2 hg _ hp).succ,q1,q2⟩
   ·obtain rfl:lo=hi:=by omega
    exact ⟨lo,h0,h2,(stop lo h0 h2).succ,hl,hh⟩
 exact key n.toNat 0 n (Int.le_refl _) hn (Int.le_refl _) (by omega) (fun i h0 h1=>absurd h1 (by omega)) (fun i h0 h1=>absurd h1 (by omega))
theorem less_trans:∀ a b c:List UInt8,Op.bytesLess a b=true→Op.bytesLess b c=true→Op.bytesLess a c=true
 | [],[],_,h,_=>by simp [Op.bytesLess] at h
 | [],_ :: _,[],_,h=>by simp [Op.bytesLess] at h
 | [],_ :: _,_ :: _,_,_=>by simp [Op.bytesLess]
 | _ :: _,[],_,h,_=>by simp [Op.bytesLess] at h
 | _ :: _,_ :: _,[],_,h=>by simp [Op.bytesLess] at h
 | x :: a,y :: b,z :: c,h1,h2=>by
  have ih:=less_trans a b c
  have key:∀ (x y:UInt8) (a b:List UInt8),Op.bytesLess (x :: a) (y :: b)=true ↔ (x.toNat<y.toNat∨(x.toNat=y.toNat∧Op.bytesLess a b=true)):=by
   intro x y a b
   by_cases g1:x<y
   ·have:=UInt8.lt_iff_toNat_lt.1 g1
    simp [Op.bytesLess,g1,this]
   ·by_cases g2:y<x
    ·have g3:¬ x=y:=fun h=>by subst h;have:=UInt8.lt_iff_toNat_lt.1 g2;omega
     have:=UInt8.lt_iff_toNat_lt.1 g2
     simp [Op.bytesLess,g1,g3]
     omega
    ·have g3:x=y:=UInt8.toNat_inj.1 (by
      have e1:=mt UInt8.lt_iff_toNat_lt.2 g1
      have e2:=mt UInt8.lt_iff_toNat_lt.2 g2
      omega)
     subst g3
     simp [Op.bytesLess]
  rw [key] at h1 h2 ⊢
  rcases h1 with h1 | ⟨h1,h1'⟩ <;> rcases h2 with h2 | ⟨h2,h2'⟩
  ·exact .inl (by omega)
  ·exact .inl (by omega)
  ·exact .inl (by omega)
  ·exact .inr ⟨by omega,ih h1' h2'⟩
theorem cmpB (a b:List UInt8):Lib.compareBytes a b=if Op.bytesLess a b=true then -1 else if Op.bytesLess b a=true then 1 else 0:=by
 induction a generalizing b with
 | nil=>cases b <;> simp [Lib.compareBytes,Op.bytesLess]
 | cons x a ih =>
  cases b with
  | nil=>simp [Lib.compareBytes,Op.bytesLess]
  | cons y b =>
   by_cases g1:x<y
   ·simp [Lib.compareBytes,Op.bytesLess,g1]
   ·by_cases g2:y<x
    ·have g3:¬ x=y:=fun h=>by subst h;have:=UInt8.lt_iff_toNat_lt.1 g2;omega
     simp [Lib.compareBytes,Op.bytesLess,g1,g2,g3]
    ·have g3:x=y:=UInt8.toNat_inj.1 (by
      have e1:=mt UInt8.lt_iff_toNat_lt.2 g1
      have e2:=mt UInt8.lt_iff_toNat_lt.2 g2
      omega)
     subst g3
     simp [Lib.compareBytes,Op.bytesLess,ih]
theorem strCmp_ev (a b:ByteArray):strings_Compare.f a b=some (cmpS a b):=by
 unfold strings_Compare.f bytealg_CompareString.f cmpS
 rw [Option.bind_some,cmpB]
 rw [show a.data.toList=a.toList from (ByteArray.toList_eq a).symm,show b.data.toList=b.toList from (ByteArray.toList_eq b).symm]
theorem less_tr {a b c:ByteArray} (h1:less a b) (h2:less b c):less a c:=less_trans _ _ _ h1 h2
theorem less_eq {a b c:ByteArray} (h1:less a b) (h2:b.toList=c.toList):less a c:=by unfold less at h1 ⊢;rw [← h2];exact h1
end Go.Proofs.YtomoflpgdbjojaaGreat.QO
namespace Go.Proofs.YtomoflpgdbjojaaGreat.QO
open Go.RowKit Go.Proofs.YtomoflpgdbjojaaGreat Go.Proofs.YtomoflpgdbjojaaGreatW.PrintWords Go.Proofs.YtomoflpgdbjojaaGreat.Ev0
noncomputable def nm (p:List S83) (i:Int):ByteArray:=(rd_T83 p i).f0
def ascN (p:List S83):Prop:=∀ i,0<i→i<(p.length:Int)→less (nm p (i - 1)) (nm p i)
theorem asc_lt {p:List S83} (h:ascN p) (i:Int) (h0:0≤i) (d:Nat) (hd:i+((d+1:Nat):Int)<(p.length:Int)):less (nm p i) (nm p (i+((d+1:Nat):Int))):=by
 induction d with
 | zero =>
  have:=h (i+1) (by omega) (by omega)
  rw [show i+1 - 1=i by omega] at this
  simpa using this
 | succ d ih =>
  have h1:=ih (by omega)
  have h2:=h (i+((d+1+1:Nat):Int)) (by omega) hd
  rw [show i+((d+1+1:Nat):Int) - 1=i+((d+1:Nat):Int) by omega] at h2
  exact less_tr h1 h2
theorem asc_lt' {p:List S83} (h:ascN p) {i j:Int} (h0:0≤i) (h1:i<j) (h2:j<(p.length:Int)):less (nm p i) (nm p j):=by
 have:=asc_lt h i h0 (j - i - 1).toNat (by omega)
 rwa [show i+(((j - i - 1).toNat+1:Nat):Int)=j by omega] at this
theorem less_irr {a b:ByteArray} (h:less a b):¬ a.toList=b.toList:=fun e=>by
 unfold less at h
 rw [e,Bs.less_irrefl] at h
 cases h
structure Place (p:List S83) (a:ByteArray) (q:Int):Prop where
 q0:0≤q
 q1:q≤(p.length:Int)
 lt:∀ i,0≤i→i<q→less (nm p i) a
 ge:∀ i,q≤i→i<(p.length:Int)→¬ less (nm p i) a
def Is (p:List S83) (a:ByteArray) (q:Int):Prop:=q<(p.length:Int)∧(nm p q).toList=a.toList
theorem place_ne {p:List S83} {a:ByteArray} {q i:Int} (h:Place p a q) (h0:0≤i) (h1:i<q):¬ (nm p i).toList=a.toList:=less_irr (h.lt i h0 h1)
theorem place_all {p:List S83} {a:ByteArray} {q i:Int} (h:Place p a q) (hs:ascN p) (hn:¬ Is p a q) (h0:0≤i) (h1:i<(p.length:Int)):¬ (nm p i).toList=a.toList:=fun e=>by
 by_cases c:i<q
 ·exact place_ne h h0 c e
 ·by_cases c2:i=q
  ·exact hn ⟨by omega,by rw [← c2];exact e⟩
  ·exact h.ge q (Int.le_refl _) (by omega) (less_eq (asc_lt' hs h.q0 (by omega) h1) e)
theorem place_gt {p:List S83} {a:ByteArray} {q i:Int} (h:Place p a q) (hs:ascN p) (hn:¬ Is p a q) (h0:q≤i) (h1:i<(p.length:Int)):less a (nm p i):=by
 have e:=place_all h hs hn (by have:=h.q0;omega) h1
 have g:=h.ge i h0 h1
 rcases cmpS_cases (nm p i) a with c|c|c
 ·exact absurd c.1 g
 ·exact c.2.1
 ·exact absurd c.2.2.1 e
theorem search_ev (p:List S83) (a:ByteArray) (hp:p.length≤1048576) (hs:ascN p):∃ q,Place p a q∧Evt (fun k=>impl_Partner_string_impl_Gate_partner_1.f k p a) (q,B (Is p a q)):=by
 unfold impl_Partner_string_impl_Gate_partner_1.f
 have h:=bin_loop (p.length:Int) (by omega) (fun i=>less (nm p i) a) (fun k lo hi=>impl_Partner_string_impl_Gate_partner_1.l0 k p a (p.length:Int) lo hi) (fun q=>(q,B (Is p a q))) ?_ ?_ ?_
 ·obtain ⟨q,h0,h1,hq,hl,hg⟩:=h
  exact ⟨q,⟨h0,h1,hl,hg⟩,hq⟩
 ·intro lo hi h0 h1 h2
  have hm:=mid_eq lo hi h0 h1 (by omega)
  have hw:wrap64 ((lo+hi) / 2+1)=(lo+hi) / 2+1:=w64 (by omega) (by omega)
  have e:∀ i,impl_Gate_partner_1.f (rd_T83 p i).f0 (rd_T83 p i).f1 (rd_T83 p i).f2 (rd_T83 p i).f3 a=some (cmpS (nm p i) a):=fun i=>by
   unfold impl_Gate_partner_1.f
   rw [strCmp_ev]
   rfl
  simp only [impl_Partner_string_impl_Gate_partner_1.l0,hm,hw,e,Option.bind_some]
  refine ⟨fun g r hr=>?_,fun g r hr=>?_⟩
  ·refine Evt.pos h1 (Evt.pos (by omega) (Evt.pos (by omega) (Evt.pos ?_ hr)))
   rcases cmpS_cases (nm p ((lo+hi) / 2)) a with c|c|c
   ·rw [c.2.2.2];decide
   ·exact absurd g c.1
   ·exact absurd g c.1
  ·refine Evt.pos h1 (Evt.pos (by omega) (Evt.pos (by omega) (Evt.neg ?_ hr)))
   rcases cmpS_cases (nm p ((lo+hi) / 2)) a with c|c|c
   ·exact absurd c.1 g
   ·rw [c.2.2.2];decide
   ·rw [c.2.2.2];decide
 ·intro lo h0 h1
  simp only [impl_Partner_string_impl_Gate_partner_1.l0]
  refine Evt.neg (by omega) ?_
  by_cases c:lo<(p.length:Int)
  ·refine Evt.pos c (Evt.pos h0 (Evt.pos c (Evt.const ?_)))
   unfold impl_Gate_partner_1.f
   rw [strCmp_ev]
   refine congrArg (fun b=>some (lo,b)) ?_
   rcases cmpS_cases (nm p lo) a with g|g|g
   ·rw [B_false (fun h=>g.2.2.1 h.2)]
    show (cmpS (nm p lo) a == 0)=false
    rw [g.2.2.2];rfl
   ·rw [B_false (fun h=>g.2.2.1 h.2)]
    show (cmpS (nm p lo) a == 0)=false
    rw [g.2.2.2];rfl
   ·rw [B_true ⟨c,g.2.2.1⟩]
    show (cmpS (nm p lo) a == 0)=true
    rw [g.2.2.2];rfl
  ·refine Evt.neg c ((Evt.pure _).same ?_)
   rw [B_false (fun h=>c h.1)]
 ·intro i j h0 h1 h2 h3
  by_cases c:i=j
  ·rw [c];exact h3
  ·exact less_tr (asc_lt' hs h0 (by omega) h2) h3
theorem find_ev (n:ByteArray) (d:Int) (p:List S83) (x:List S114) (s:List S152) (m:List S161) (f:List S118) (o:List S120) (a:ByteArray) (hp:p.length≤1048576) (hs:ascN p) (q:Int) (hq:Place p a q) :
  ∃ z,Evt (fun k=>spec_l13Find.f k n d p x s m f o a) z∧(z≥0 ↔ Is p a q):=by
 unfold spec_l13Find.f
 have hq0:=hq.q0
 have hq1:=hq.q1
 by_cases c:Is p a q
 ·refine ⟨q,up_loop q (fun k (_:Unit) i=>spec_l13Find.l0 k a i n d p x s m f o) (fun _=>()) (fun _=>q) ?_ ?_ 0 (Int.le_refl _) hq0,fun _=>c,fun _=>hq0⟩
  ·intro i h0 h1 ih
   have hw:wrap64 (i+1)=i+1:=w64 (by omega) (by omega)
   simp only [spec_l13Find.l0,hw]
   exact Evt.pos (by omega) (Evt.pos h0 (Evt.neg (place_ne hq h0 h1) ih))
  ·simp only [spec_l13Find.l0]
   exact Evt.pos c.1 (Evt.pos hq0 (Evt.pos c.2 (Evt.pure _)))
 ·refine ⟨-1,up_loop (p.length:Int) (fun k (_:Unit) i=>spec_l13Find.l0 k a i n d p x s m f o) (fun _=>()) (fun _=>-1) ?_ ?_ 0 (Int.le_refl _) (by omega),fun h=>absurd h (by decide),fun h=>absurd h c⟩
  ·intro i h0 h1 ih
   have hw:wrap64 (i+1)=i+1:=w64 (by omega) (by omega)
   simp only [spec_l13Find.l0,hw]
   exact Evt.pos h1 (Evt.pos h0 (Evt.neg (place_all hq hs c h0 h1) ih))
  ·simp only [spec_l13Find.l0]
   exact Evt.neg (by omega) (Evt.pure _)
def ins (p:List S83) (a:ByteArray) (q:Int):List S83:=p.take q.toNat++[(⟨a,1,1,[]⟩:S83)]++p.drop q.toNat
theorem copy1 (p:List S83) (i:Int) (h:((rd_T83 p i).f3.length:Int)≤9000000):spec_l07Copy.f (rd_T83 p i).f0 (rd_T83 p i).f1 (rd_T83 p i).f2 (rd_T83 p i).f3=some ((rd_T83 p i).f0,(rd_T83 p i).f1,(rd_T83 p i).f2,(rd_T83 p i).f3):=by
 simp only [spec_l07Copy.f,Option.bind_some,List.length_nil,Nat.zero_add,List.nil_append]
 rw [if_pos (by omega)]
theorem loop_ev (p:List S83) (a:ByteArray) (q:Int) (hp:p.length≤1048576) (hk:∀ i:Int,0≤i→i<(p.length:Int)→((rd_T83 p i).f3.length:Int)≤9000000) (hs:ascN p) (hq:Place p a q) (hn:¬ Is p a q) :
  Evt (fun k=>spec_GatePartner.l0 k p a [] false 0) (if q<(p.length:Int) then (ins p a q,true) else (p,false)):=by
 have hq0:=hq.q0
 have hq1:=hq.q1
 have h:=up_loop q (fun k (s:List S83) i=>spec_GatePartner.l0 k p a s false i) (fun i=>p.take i.toNat) (fun _=>if q<(p.length:Int) then (ins p a q,true) else (p,false)) ?_ ?_ 0 (Int.le_refl _) hq0
 ·simpa using h
 ·intro i h0 h1 ih
  have hw:wrap64 (i+1)=i+1:=w64 (by omega) (by omega)
  have hl:(p.take i.toNat).length≤1048576:=by simp;omega
  have hb:Op.bytesLess a.toList (rd_T83 p i).f0.toList=false:=Bool.eq_false_iff.2 (fun e=>by
   have h2:less a a:=less_tr e (hq.lt i h0 h1)
   exact less_irr h2 rfl)
  rw [← take_next p i h0 (by omega)] at ih
  simp only [spec_GatePartner.l0,hw,copy1 p i (hk i h0 (by omega)),Option.bind_some,hb,Bool.and_false]
  exact Evt.pos (by omega) (Evt.pos h0 (Evt.pos (by omega) (Evt.neg (by decide) ih)))
 ·by_cases c:q<(p.length:Int)
  ·have hb:Op.bytesLess a.toList (rd_T83 p q).f0.toList=true:=place_gt hq hs hn (Int.le_refl _) c
   have hw:wrap64 (q+1)=q+1:=w64 (by omega) (by omega)
   have hl:(p.take q.toNat).length≤1048576:=by simp;omega
   have st:∀ i,q≤i→i<(p.length:Int)→(p.take q.toNat++[(⟨a,1,1,[]⟩:S83)]++(p.take i.toNat).drop q.toNat)++[rd_T83 p i]=p.take q.toNat++[(⟨a,1,1,[]⟩:S83)]++(p.take (i+1).toNat).drop q.toNat:=fun i h0 h1=>by
    rw [← take_next p i (by omega) h1,List.drop_append_of_le_length (by simp;omega),List.append_assoc (p.take q.toNat++_)]
   have e0:p.take q.toNat++[(⟨a,1,1,[]⟩:S83)]++[rd_T83 p q]=p.take q.toNat++[(⟨a,1,1,[]⟩:S83)]++(p.take (q+1).toNat).drop q.toNat:=by
    rw [← st q (Int.le_refl _) c,List.drop_eq_nil_of_le (show (p.take q.toNat).length≤q.toNat by simp;omega),List.append_nil]
   have h2:=up_loop ((p.length:Int) - (q+1)) (fun k (s:List S83) j=>spec_GatePartner.l0 k p a s true (j+(q+1))) (fun j=>p.take q.toNat++[(⟨a,1,1,[]⟩:S83)]++(p.take (j+(q+1)).toNat).drop q.toNat) (fun _=>(ins p a q,true)) ?_ ?_ 0 (Int.le_refl _) (by omega)
   ·rw [if_pos c]
    rw [Int.zero_add] at h2
    simp only [spec_GatePartner.l0,hw,copy1 p q (hk q hq0 c),Option.bind_some,hb]
    refine Evt.pos c (Evt.pos hq0 (Evt.pos (by omega) (Evt.pos rfl ?_)))
    rw [show (⟨(rd_T83 p q).f0,(rd_T83 p q).f1,(rd_T83 p q).f2,(rd_T83 p q).f3⟩:S83)=rd_T83 p q from rfl,e0]
    exact h2
   ·intro j h0 h1 ih
    have hw:wrap64 (j+(q+1)+1)=j+1+(q+1):=by rw [w64 (by omega) (by omega)];omega
    have hl:(p.take q.toNat++[(⟨a,1,1,[]⟩:S83)]++(p.take (j+(q+1)).toNat).drop q.toNat).length≤3000000:=by simp;omega
    have e:=st (j+(q+1)) (by omega) (by omega)
    rw [show j+(q+1)+1=j+1+(q+1) by omega] at e
    rw [← e] at ih
    simp only [spec_GatePartner.l0,hw,copy1 p (j+(q+1)) (hk _ (by omega) (by omega)),Option.bind_some,Bool.not_true,Bool.false_and]
    exact Evt.pos (by omega) (Evt.pos (by omega) (Evt.pos (by omega) (Evt.neg (by decide) ih)))
   ·simp only [spec_GatePartner.l0]
    refine Evt.neg (by omega) ((Evt.pure _).same ?_)
    rw [show ((p.length:Int) - (q+1)+(q+1)).toNat=p.length by omega,List.take_length]
    rfl
  ·rw [if_neg c]
   simp only [spec_GatePartner.l0]
   refine Evt.neg c ((Evt.pure _).same ?_)
   rw [List.take_of_length_le (by omega)]
theorem gateB_asc {n:ByteArray} {d:Int} {p:List S83} {x:List S114} {s:List S152} {m:List S161} {f:List S118} {o:List S120} (h:gateB n d p x s m f o=true):ascN p∧(p.length:Int)≤20 :=
 ⟨fun i h0 h1=>((B_iff.1 h).2.1 i (by omega) h1).2 h0,(B_iff.1 h).1.2.2.1⟩
theorem ok_ins {p:List S83} {a:ByteArray} {q:Int} (h:∀ y ∈ p,okP y) (ha:(a.size:Int)≤9223372036854775807):∀ y ∈ ins p a q,okP y:=fun y hy=>by
 unfold ins at hy
 rw [List.mem_append,List.mem_append] at hy
 rcases hy with (hy|hy)|hy
 ·exact h y (List.mem_of_mem_take hy)
 ·rw [List.mem_singleton] at hy
  subst hy
  exact ⟨ha,by simp⟩
 ·exact h y (List.mem_of_mem_drop hy)
theorem partner_both (n:ByteArray) (d:Int) (p:List S83) (x:List S114) (s:List S152) (m:List S161) (f:List S118) (o:List S120) (a:ByteArray) (h:okG n p x s m f o) (ha:(a.size:Int)≤9223372036854775807) :
  ∃ (n':ByteArray) (d':Int) (p':List S83) (x':List S114) (s':List S152) (m':List S161) (f':List S118) (o':List S120) (b:ByteArray) (c1 c2 c3 c4 c5:Int),okG n' p' x' s' m' f' o' ∧
   Evt (fun k=>spec_GatePartner.f k n d p x s m f o a) (n',d',p',x',s',m',f',o',b,c1,c2,c3,c4,c5)∧Evt (fun k=>impl_GatePartner.f k n d p x s m f o a) (n',d',p',x',s',m',f',o',b,c1,c2,c3,c4,c5):=by
 unfold spec_GatePartner.f impl_GatePartner.f
 have o0:okG (⟨#[]⟩:ByteArray) [] [] [] [] [] []:=⟨by decide,(fun y hy=>by cases hy),(fun y hy=>by cases hy),(fun y hy=>by cases hy),(fun y hy=>by cases hy),(fun y hy=>by cases hy),by decide,by decide,by decide,by decide,by decide,by decide⟩
 have hl:=longText1_ev a
 by_cases g1:(a.size:Int)>20000
 ·exact ⟨_,_,_,_,_,_,_,_,_,_,_,_,_,_,o0,Evt.pos g1 (Evt.pure _),Evt.bind hl (Evt.pos (B_true g1) (Evt.pure _))⟩
 have l1:¬ B ((a.size:Int)>20000)=true:=fun e=>g1 (B_iff.1 e)
 have s1:=specGate_ev n d p x s m f o h
 have i1:=implGate_ev n d p x s m f o h
 by_cases g2:¬ gateB n d p x s m f o=true
 ·exact ⟨_,_,_,_,_,_,_,_,_,_,_,_,_,_,o0,Evt.neg g1 (Evt.bind s1 (Evt.neg g2 (Evt.pure _))),Evt.bind hl (Evt.neg l1 (Evt.bind i1 (Evt.neg g2 (Evt.pure _))))⟩
 replace g2:=Classical.not_not.1 g2
 have s2:=specName_ev a ha
 have i2:=implName_ev a ha
 by_cases g3:¬ nameB a=true
 ·exact ⟨_,_,_,_,_,_,_,_,_,_,_,_,_,_,o0,Evt.neg g1 (Evt.bind s1 (Evt.pos g2 (Evt.bind s2 (Evt.neg g3 (Evt.pure _))))),Evt.bind hl (Evt.neg l1 (Evt.bind i1 (Evt.pos g2 (Evt.bind i2 (Evt.neg g3 (Evt.pure _))))))⟩
 replace g3:=Classical.not_not.1 g3
 obtain ⟨hs,h20⟩:=gateB_asc g2
 obtain ⟨q,hq,hse⟩:=search_ev p a h.lp hs
 obtain ⟨z,hz,hzi⟩:=find_ev n d p x s m f o a h.lp hs q hq
 have i3:Evt (fun k=>impl_Gate_partner.f k n d p x s m f o a) (q,B (Is p a q),n,d):=by
  unfold impl_Gate_partner.f
  exact Evt.bind hse (Evt.pure _)
 by_cases g4:Is p a q
 ·exact ⟨_,_,_,_,_,_,_,_,_,_,_,_,_,_,o0,Evt.neg g1 (Evt.bind s1 (Evt.pos g2 (Evt.bind s2 (Evt.pos g3 (Evt.bind hz (Evt.pos (hzi.2 g4) (Evt.pure _))))))),Evt.bind hl (Evt.neg l1 (Evt.bind i1 (Evt.pos g2 (Evt.bind i2 (Evt.pos g3 (Evt.bind i3 (Evt.pos (B_true g4) (Evt.pure _))))))))⟩
 have z4:¬ z≥0:=fun e=>g4 (hzi.1 e)
 have l4:¬ B (Is p a q)=true:=fun e=>g4 (B_iff.1 e)
 by_cases g5:(p.length:Int)≥20
 ·exact ⟨_,_,_,_,_,_,_,_,_,_,_,_,_,_,o0,Evt.neg g1 (Evt.bind s1 (Evt.pos g2 (Evt.bind s2 (Evt.pos g3 (Evt.bind hz (Evt.neg z4 (Evt.pos g5 (Evt.pure _)))))))),Evt.bind hl (Evt.neg l1 (Evt.bind i1 (Evt.pos g2 (Evt.bind i2 (Evt.pos g3 (Evt.bind i3 (Evt.neg l4 (Evt.pos (by omega) (Evt.pure _)))))))))⟩
 have hq0:=hq.q0
 have hq1:=hq.q1
 have s5:=specCopy_ev n d p x s m f o h h.lf
 have i5:=implCopy_ev n d p x s m f o h h.lf
 have s6:=loop_ev p a q h.lp (fun i h0 hlt=>(okP_at h.qp i hlt h0).2) hs hq g4
 have hlen:(ins p a q).length≤1048576:=by simp [ins];omega
 refine ⟨n,d,ins p a q,x,s,m,f,o,⟨#[]⟩,0,0,0,0,0,⟨h.qn,ok_ins h.qp ha,h.qx,h.qs,h.qm,h.qo,hlen,h.lx,h.ls,h.lm,h.lf,h.lo⟩,Evt.neg g1 (Evt.bind s1 (Evt.pos g2 (Evt.bind s2 (Evt.pos g3 (Evt.bind hz (Evt.neg z4 (Evt.neg g5 (Evt.bind s5 (Evt.bind s6 ?_))))))))),Evt.bind hl (Evt.neg l1 (Evt.bind i1 (Evt.pos g2 (Evt.bind i2 (Evt.pos g3 (Evt.bind i3 (Evt.neg l4 (Evt.neg (by omega) (Evt.bind i5 (Evt.pos ⟨hq0,hq1,by dsimp only;omega⟩ (Evt.pure _)))))))))))⟩
 by_cases c:q<(p.length:Int)
 ·rw [if_pos c]
  exact Evt.pos rfl (Evt.pure _)
 ·rw [if_neg c]
  refine Evt.neg (by simp) (Evt.pos (by dsimp only;omega) ((Evt.pure _).same ?_))
  dsimp only
  unfold ins
  rw [List.take_of_length_le (by omega),List.drop_eq_nil_of_le (by omega),List.append_nil]
end Go.Proofs.YtomoflpgdbjojaaGreat.QO
namespace Go.Proofs.YtomoflpgdbjojaaGreat.QO
open Go.RowKit Go.Proofs.YtomoflpgdbjojaaGreatW.PrintWords Go.Proofs.YtomoflpgdbjojaaGreat.Ev0
theorem one_size (v:Int):(strOfNums [v]).size=1:=rfl
theorem markText_l (d:Nat):∀ (a:Int) (x:ByteArray),0≤a→a<10 ^ d→a≤9223372036854775807→(x.size:Int)+d≤1000000000000000000→∃ r,Evt (fun k=>laws_markText.l0 k a x) r:=by
 induction d with
 | zero =>
  intro a x h0 h1 ha hx
  obtain rfl:a=0:=by have:(10:Int) ^ 0=1:=rfl;omega
  refine ⟨(⟨#[109]⟩:ByteArray)++x,Evt.succ ?_⟩
  simp only [laws_markText.l0]
  exact Evt.neg (by omega) (Evt.pos (by omega) (Evt.pure _))
 | succ d ih =>
  intro a x h0 h1 ha hx
  by_cases h:a>0
  ·have e:a.tdiv 10=a / 10:=Int.tdiv_eq_ediv_of_nonneg h0
   have hp:(10:Int) ^ (d+1)=10 ^ d * 10:=Int.pow_succ ..
   have hw:wrap64 (a.tdiv 10)=a / 10:=by rw [e];exact w64 (by omega) (by omega)
   obtain ⟨r,hr⟩:=ih (a / 10) (strOfNums [(wrap64 (48+(Int.tmod a 10))) % 256]++x) (by omega) (by omega) (by omega) (by rw [ByteArray.size_append,one_size];omega)
   refine ⟨r,Evt.succ ?_⟩
   simp only [laws_markText.l0,Option.bind_some,hw,one_size]
   exact Evt.pos h (Evt.pos (by omega) hr)
  ·obtain rfl:a=0:=by omega
   refine ⟨(⟨#[109]⟩:ByteArray)++x,Evt.succ ?_⟩
   simp only [laws_markText.l0]
   exact Evt.neg (by omega) (Evt.pos (by omega) (Evt.pure _))
theorem markText_ex (a:Int) (ha:a≤9223372036854775807):∃ r,Evt (fun k=>laws_markText.f k a) r:=by
 unfold laws_markText.f
 by_cases h:a≤0
 ·exact ⟨_,Evt.pos h (Evt.pure _)⟩
 ·obtain ⟨r,hr⟩:=markText_l 19 a ⟨#[]⟩ (by omega) (by omega) ha (by decide)
  exact ⟨r,Evt.neg h hr⟩
noncomputable def mt (a:Int):ByteArray:=@dite _ (∃ r,Evt (fun k=>laws_markText.f k a) r) (Classical.propDecidable _) (fun h=>Classical.choose h) (fun _=>⟨#[]⟩)
theorem mt_ev (a:Int) (ha:a≤9223372036854775807):Evt (fun k=>laws_markText.f k a) (mt a):=by
 unfold mt
 rw [dif_pos (markText_ex a ha)]
 exact Classical.choose_spec (markText_ex a ha)
theorem lin (c m i:Int):c+m * i+m=c+m * (i+1):=by rw [Int.mul_add,Int.mul_one,Int.add_assoc]
theorem mark_loop {α:Type} (n:Nat) (l:List α) (hl:l.length=n) (m c:Int) (g:Int→α) (F:Nat→List α→Int→Int→Option (Int × List α))
  (step:∀ acc i,0≤i→i<(n:Int)→acc.length=n→∀ r,Evt (fun k=>F k (acc.set i.toNat (g (c+m * i))) (c+m * i+m) (i+1)) r→Evt (fun k=>F (k+1) acc (c+m * i) i) r)
  (stop:∀ acc s,acc.length=n→Evt (fun k=>F (k+1) acc s (n:Int)) (s,acc)) :
  Evt (fun k=>F k l c 0) (c+m * n,(List.range n).map fun (j:Nat)=>g (c+m * (j:Int))):=by
 have h:=up_loop (n:Int) (fun k (s:List α × Int) i=>F k s.1 s.2 i) (fun i=>((List.range i.toNat).map (fun (j:Nat)=>g (c+m * (j:Int)))++l.drop i.toNat,c+m * i)) (fun _=>(c+m * (n:Int),(List.range n).map fun (j:Nat)=>g (c+m * (j:Int)))) ?_ ?_ 0 (Int.le_refl _) (by omega)
 ·simpa using h
 ·intro i h0 hlt ih
  have hi:i.toNat<l.length:=by omega
  refine step _ i h0 hlt (by simp;omega) _ ?_
  have e:((List.range i.toNat).map (fun (j:Nat)=>g (c+m * (j:Int)))++l.drop i.toNat).set i.toNat (g (c+m * i))=(List.range (i+1).toNat).map (fun (j:Nat)=>g (c+m * (j:Int)))++l.drop (i+1).toNat:=by
   rw [List.set_append_right _ _ (by simp),List.length_map,List.length_range,Nat.sub_self,List.drop_eq_getElem_cons hi,List.set_cons_zero,show (i+1).toNat=i.toNat+1 by omega]
   rw [List.range_succ,List.map_append,List.append_assoc]
   congr 1
   rw [List.map_singleton,List.singleton_append,show ((i.toNat:Nat):Int)=i by omega]
  rw [e,lin]
  exact ih
 ·refine (stop _ _ (by simp;omega)).same ?_
  have:l.drop n=[]:=by rw [← hl];exact List.drop_length
  simp [this]
theorem at_map {α:Type} (n:Nat) (g:Nat→α) (z:α) (i:Int) (h0:0≤i) (h:i<(n:Int)):((List.range n).map g).getD i.toNat z=g i.toNat:=by
 rw [getD_at _ _ _ (by simp;omega)]
 simp
theorem held_loop (n:Nat) (m c:Int) (F:Nat→Int→Int→Option Int)
  (step:∀ i,0≤i→i<(n:Int)→∀ r,Evt (fun k=>F k (c+m * i+m) (i+1)) r→Evt (fun k=>F (k+1) (c+m * i) i) r)
  (stop:∀ s,Evt (fun k=>F (k+1) s (n:Int)) s):Evt (fun k=>F k c 0) (c+m * n):=by
 have h:=up_loop (n:Int) (fun k (s:Int) i=>F k s i) (fun i=>c+m * i) (fun _=>c+m * (n:Int)) ?_ ?_ 0 (Int.le_refl _) (by omega)
 ·simpa using h
 ·intro i h0 hlt ih
  refine step i h0 hlt _ ?_
  rw [lin]
  exact ih
 ·exact stop _
noncomputable def gK (s:Int):S152:=⟨mt s,s+1⟩
noncomputable def marksK (n:Nat) (c:Int):List S152:=(List.range n).map fun (j:Nat)=>gK (c+2 * (j:Int))
theorem rdK_set (l:List S152) (i:Int) (x:S152) (h0:0≤i) (h:i<(l.length:Int)):rd_T152 (l.set i.toNat x) i=x:=by
 unfold rd_T152
 rw [getD_at _ _ _ (by simp;omega)]
 simp
theorem markK_ev (l:List S152) (c:Int) (h0:0≤c) (hc:c+2 * (l.length:Int)≤1000000000000000000):Evt (fun k=>laws_markStockS.f k l c) (c+2 * l.length,marksK l.length c):=by
 unfold laws_markStockS.f
 refine mark_loop l.length l rfl 2 c gK (fun k acc s i=>laws_markStockS.l0 k acc s i) ?_ ?_
 ·intro acc i h1 hlt hl r hr
  have hw:wrap64 (i+1)=i+1:=w64 (by omega) (by omega)
  have w1:wrap64 (c+2 * i+1)=c+2 * i+1:=by rw [w64 (by omega) (by omega)]
  have w2:wrap64 (c+2 * i+1+1)=c+2 * i+2:=by rw [w64 (by omega) (by omega)];omega
  simp only [laws_markStockS.l0,hw,w1,w2]
  refine Evt.pos (by omega) (Evt.bind (mt_ev _ (by omega)) (Evt.pos h1 ?_))
  (try simp only [rdK_set _ i _ h1 (show i<(acc.length:Int) by omega),List.set_set])
  exact hr
 ·intro acc s hl
  simp only [laws_markStockS.l0]
  exact Evt.neg (by omega) (Evt.pure _)
theorem heldK_ev (n:Nat) (c:Int) (h0:0≤c) (hc:c+2 * (n:Int)≤1000000000000000000):Evt (fun k=>laws_heldStockS.f k (marksK n c) c) (c+2 * n):=by
 unfold laws_heldStockS.f
 have hlen:(marksK n c).length=n:=by simp [marksK]
 refine held_loop n 2 c (fun k s i=>laws_heldStockS.l0 k (marksK n c) s i) ?_ ?_
 ·intro i h1 hlt r hr
  have hw:wrap64 (i+1)=i+1:=w64 (by omega) (by omega)
  have w1:wrap64 (c+2 * i+1)=c+2 * i+1:=by rw [w64 (by omega) (by omega)]
  have w2:wrap64 (c+2 * i+1+1)=c+2 * i+2:=by rw [w64 (by omega) (by omega)];omega
  have e:rd_T152 (marksK n c) i=gK (c+2 * i):=by
   unfold rd_T152 marksK
   rw [at_map _ _ _ _ h1 hlt,show ((i.toNat:Nat):Int)=i by omega]
  simp only [laws_heldStockS.l0,hw,w1,w2,e,gK,hlen]
  exact Evt.pos hlt (Evt.pos h1 (Evt.bind (mt_ev _ (by omega)) (Evt.pos (by simp) (Evt.pos (by simp) hr))))
 ·intro s
  simp only [laws_heldStockS.l0,hlen]
  exact Evt.neg (by omega) (Evt.pure _)
noncomputable def gL (s:Int):S161:=⟨mt s,mt (s+1),s+2,mt (s+3),s+4,s+5,s+6,s+7⟩
noncomputable def marksL (n:Nat) (c:Int):List S161:=(List.range n).map fun (j:Nat)=>gL (c+8 * (j:Int))
theorem rdL_set (l:List S161) (i:Int) (x:S161) (h0:0≤i) (h:i<(l.length:Int)):rd_T161 (l.set i.toNat x) i=x:=by
 unfold rd_T161
 rw [getD_at _ _ _ (by simp;omega)]
 simp
theorem markL_ev (l:List S161) (c:Int) (h0:0≤c) (hc:c+8 * (l.length:Int)≤1000000000000000000):Evt (fun k=>laws_markOrderLineS.f k l c) (c+8 * l.length,marksL l.length c):=by
 unfold laws_markOrderLineS.f
 refine mark_loop l.length l rfl 8 c gL (fun k acc s i=>laws_markOrderLineS.l0 k acc s i) ?_ ?_
 ·intro acc i h1 hlt hl r hr
  have hw:wrap64 (i+1)=i+1:=w64 (by omega) (by omega)
  have w1:wrap64 (c+8 * i+1)=c+8 * i+1:=by rw [w64 (by omega) (by omega)]
  have w2:wrap64 (c+8 * i+1+1)=c+8 * i+2:=by rw [w64 (by omega) (by omega)];omega
  have w3:wrap64 (c+8 * i+2+1)=c+8 * i+3:=by rw [w64 (by omega) (by omega)];omega
  have w4:wrap64 (c+8 * i+3+1)=c+8 * i+4:=by rw [w64 (by omega) (by omega)];omega
  have w5:wrap64 (c+8 * i+4+1)=c+8 * i+5:=by rw [w64 (by omega) (by omega)];omega
  have w6:wrap64 (c+8 * i+5+1)=c+8 * i+6:=by rw [w64 (by omega) (by omega)];omega
  have w7:wrap64 (c+8 * i+6+1)=c+8 * i+7:=by rw [w64 (by omega) (by omega)];omega
  have w8:wrap64 (c+8 * i+7+1)=c+8 * i+8:=by rw [w64 (by omega) (by omega)];omega
  simp only [laws_markOrderLineS.l0,hw,w1,w2,w3,w4,w5,w6,w7,w8]
  refine Evt.pos (by omega) (Evt.bind (mt_ev _ (by omega)) (Evt.pos h1 (Evt.bind (mt_ev _ (by omega)) (Evt.bind (mt_ev _ (by omega)) ?_))))
  (try simp only [rdL_set _ i _ h1 (show i<(acc.length:Int) by omega),List.set_set])
  exact hr
 ·intro acc s hl
  simp only [laws_markOrderLineS.l0]
  exact Evt.neg (by omega) (Evt.pure _)
theorem heldL_ev (n:Nat) (c:Int) (h0:0≤c) (hc:c+8 * (n:Int)≤1000000000000000000):Evt (fun k=>laws_heldOrderLineS.f k (marksL n c) c) (c+8 * n):=by
 unfold laws_heldOrderLineS.f
 have hlen:(marksL n c).length=n:=by simp [marksL]
 refine held_loop n 8 c (fun k s i=>laws_heldOrderLineS.l0 k (marksL n c) s i) ?_ ?_
 ·intro i h1 hlt r hr
  have hw:wrap64 (i+1)=i+1:=w64 (by omega) (by omega)
  have w1:wrap64 (c+8 * i+1)=c+8 * i+1:=by rw [w64 (by omega) (by omega)]
  have w2:wrap64 (c+8 * i+1+1)=c+8 * i+2:=by rw [w64 (by omega) (by omega)];omega
  have w3:wrap64 (c+8 * i+2+1)=c+8 * i+3:=by rw [w64 (by omega) (by omega)];omega
  have w4:wrap64 (c+8 * i+3+1)=c+8 * i+4:=by rw [w64 (by omega) (by omega)];omega
  have w5:wrap64 (c+8 * i+4+1)=c+8 * i+5:=by rw [w64 (by omega) (by omega)];omega
  have w6:wrap64 (c+8 * i+5+1)=c+8 * i+6:=by rw [w64 (by omega) (by omega)];omega
  have w7:wrap64 (c+8 * i+6+1)=c+8 * i+7:=by rw [w64 (by omega) (by omega)];omega
  have w8:wrap64 (c+8 * i+7+1)=c+8 * i+8:=by rw [w64 (by omega) (by omega)];omega
  have e:rd_T161 (marksL n c) i=gL (c+8 * i):=by
   unfold rd_T161 marksL
   rw [at_map _ _ _ _ h1 hlt,show ((i.toNat:Nat):Int)=i by omega]
  simp only [laws_heldOrderLineS.l0,hw,w1,w2,w3,w4,w5,w6,w7,w8,e,gL,hlen]
  exact Evt.pos hlt (Evt.pos h1 (Evt.bind (mt_ev _ (by omega)) (Evt.pos (by simp) (Evt.bind (mt_ev _ (by omega)) (Evt.pos (by simp) (Evt.pos (by simp) (Evt.bind (mt_ev _ (by omega)) (Evt.pos (by simp) (Evt.pos (by simp) (Evt.pos (by simp) (Evt.pos (by simp) (Evt.pos (by simp) hr))))))))))))
 ·intro s
  simp only [laws_heldOrderLineS.l0,hlen]
  exact Evt.neg (by omega) (Evt.pure _)
noncomputable def gO (s:Int):S120:=⟨mt s,s+1,mt (s+2),s+3,s+4⟩
noncomputable def marksO (n:Nat) (c:Int):List S120:=(List.range n).map fun (j:Nat)=>gO (c+5 * (j:Int))
theorem rdO_set (l:List S120) (i:Int) (x:S120) (h0:0≤i) (h:i<(l.length:Int)):rd_T120 (l.set i.toNat x) i=x:=by
 unfold rd_T120
 rw [getD_at _ _ _ (by simp;omega)]
 simp
theorem markO_ev (l:List S120) (c:Int) (h0:0≤c) (hc:c+5 * (l.length:Int)≤1000000000000000000):Evt (fun k=>laws_markOutS.f k l c) (c+5 * l.length,marksO l.length c):=by
 unfold laws_markOutS.f
 refine mark_loop l.length l rfl 5 c gO (fun k acc s i=>laws_markOutS.l0 k acc s i) ?_ ?_
 ·intro acc i h1 hlt hl r hr
  have hw:wrap64 (i+1)=i+1:=w64 (by omega) (by omega)
  have w1:wrap64 (c+5 * i+1)=c+5 * i+1:=w64 (by omega) (by omega)
  have w2:wrap64 (c+5 * i+1+1)=c+5 * i+2:=by rw [w64 (by omega) (by omega)];omega
  have w3:wrap64 (c+5 * i+2+1)=c+5 * i+3:=by rw [w64 (by omega) (by omega)];omega
  have w4:wrap64 (c+5 * i+3+1)=c+5 * i+4:=by rw [w64 (by omega) (by omega)];omega
  have w5:wrap64 (c+5 * i+4+1)=c+5 * i+5:=by rw [w64 (by omega) (by omega)];omega
  simp only [laws_markOutS.l0,hw,w1,w2,w3,w4,w5]
  refine Evt.pos (by omega) (Evt.bind (mt_ev _ (by omega)) (Evt.pos h1 (Evt.bind (mt_ev _ (by omega)) ?_)))
  (try simp only [rdO_set _ i _ h1 (show i<(acc.length:Int) by omega),List.set_set])
  exact hr
 ·intro acc s hl
  simp only [laws_markOutS.l0]
  exact Evt.neg (by omega) (Evt.pure _)
theorem heldO_ev (n:Nat) (c:Int) (h0:0≤c) (hc:c+5 * (n:Int)≤1000000000000000000):Evt (fun k=>laws_heldOutS.f k (marksO n c) c) (c+5 * n):=by
 unfold laws_heldOutS.f
 have hlen:(marksO n c).length=n:=by simp [marksO]
 refine held_loop n 5 c (fun k s i=>laws_heldOutS.l0 k (marksO n c) s i) ?_ ?_
 ·intro i h1 hlt r hr
  have hw:wrap64 (i+1)=i+1:=w64 (by omega) (by omega)
  have w1:wrap64 (c+5 * i+1)=c+5 * i+1:=w64 (by omega) (by omega)
  have w2:wrap64 (c+5 * i+1+1)=c+5 * i+2:=by rw [w64 (by omega) (by omega)];omega
  have w3:wrap64 (c+5 * i+2+1)=c+5 * i+3:=by rw [w64 (by omega) (by omega)];omega
  have w4:wrap64 (c+5 * i+3+1)=c+5 * i+4:=by rw [w64 (by omega) (by omega)];omega
  have w5:wrap64 (c+5 * i+4+1)=c+5 * i+5:=by rw [w64 (by omega) (by omega)];omega
  have e:rd_T120 (marksO n c) i=gO (c+5 * i):=by
   unfold rd_T120 marksO
   rw [at_map _ _ _ _ h1 hlt,show ((i.toNat:Nat):Int)=i by omega]
  simp only [laws_heldOutS.l0,hw,w1,w2,w3,w4,w5,e,gO,hlen]
  exact Evt.pos hlt (Evt.pos h1 (Evt.bind (mt_ev _ (by omega)) (Evt.pos (by simp) (Evt.pos (by simp) (Evt.bind (mt_ev _ (by omega)) (Evt.pos (by simp) (Evt.pos (by simp) (Evt.pos (by simp) hr))))))))
 ·intro s
  simp only [laws_heldOutS.l0,hlen]
  exact Evt.neg (by omega) (Evt.pure _)
end Go.Proofs.YtomoflpgdbjojaaGreat.QO
