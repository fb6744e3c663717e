import Derived.Laws.CopyOwn
import Derived.Lib.AppendZerosOnto
import Derived.Lib.Overlaps
import Derived.Laws.NewBlocks
import Derived.WalkSpells
import Derived.Shelf.Small.Strs
import Derived.Shelf.Strconv.Itoa0
import Derived.Shelf.Strconv.Itoa1
import Derived.Shelf.LaysM
import Derived.Shelf.Strconv.Itoa2
import Derived.Shelf.Strconv.Itoa3
import Derived.Shelf.Strconv.Itoa4
import Derived.Shelf.Strconv.ParseIntEmpty
import Derived.Shelf.Strconv.Clone
import Derived.Shelf.Strconv.SyntaxError
import Derived.Shelf.LaysC
import Derived.Shelf.Strconv.ToError
import Derived.Shelf.Strconv.Lower
import Derived.Shelf.Strconv.ParseUint10
import Derived.Shelf.Strconv.ParseUint10Empty
import Derived.Shelf.Strconv.ParseUint10Any
import Derived.Shelf.Strconv.ParseInt10
import Derived.Shelf.Strconv.RangeError
import Derived.Shelf.Strconv.ToErrorRange
import Derived.Shelf.Strconv.ParseUintEmpty
import Derived.Shelf.Strconv.ParseUint10b64
import Derived.Shelf.Strconv.ParseUint10b32
import Derived.Shelf.Strconv.ParseUint10b16
import Derived.Shelf.Strconv.ParseUint10b8
import Derived.Shelf.Strconv.ParseUint10At
import Derived.Shelf.Strconv.ParseInt10At64
import Derived.Shelf.Strconv.ParseInt10At32
import Derived.Shelf.Strconv.ParseInt10At16
import Derived.Shelf.Strconv.ParseInt10At8
import Derived.Shelf.Strconv.ParseInt10All
import Derived.Shelf.Strconv.ParseIntPublic10
import Derived.Shelf.Strconv.ErrVarParseInt
import Derived.Shelf.Strings.Search1
import Derived.Shelf.Strings.Search2
import Derived.Shelf.Strings.Cut
import Derived.Shelf.Strings.Shaped
import Derived.Test.YtapilmimgiaglaaGreatDoorProg
import Derived.WalkKit
import Derived.Laws.Strings
import Derived.Test.YtapilmimgiaglaaGreatDoorKFnExactParcelIx2
namespace Go.Proofs.bB.PrintMore
open Go.RowKit Go.Proofs.bB.eH Go.Proofs.bB.PrintLast
theorem Cv (a:Array UInt8):(ByteArray.mk a).size=a.size:=rfl
section
variable {P : Program} {ops : Array Oper} {Q : Exit → Act → World → Prop} {md : Region.Mode} {S : World → Prop} {ds : List Nat} {T : Bool × List (List Nat × List Nat)} {B : List Nat} {fuel : Nat} {l : Array Bool} {a a' : Act} {w : World} {oi : Oper} {v : Value}
theorem pA (i N:Nat)(hT:af (fD md ops=T))(h:fF P md ops Q S ds fuel (l.setIfInBounds i true) a' w)
  (hi:ops[i]? = some oi:=by exact rfl) (hN:oi.dst=some N:=by exact rfl) (hc:NR T l.toList (l.setIfInBounds i true).toList i=true:=by kernel_rfl)
  (hw:Region.wanted oi (yielded ops a.tmps)=true:=by rfl) (hy:∀ w,(execOp a.eval oi).run P w=.ok (.value v) w:=by (intro w';go_simp;with_reducible rfl))
  (ha:a.put (some N) v=a':=by (simp only [Act.put,List.setIfInBounds_toArray,List.set_cons_zero,List.set_cons_succ,fC,gK];rfl))
  (hQ:∀ c a w,Q (.panic c) (a.put oi.dst v) w→Q (.panic c) a w:=by exact fun _ _ _ h=>h):fF P md ops Q S ds (fuel+1) l a w :=
 PI _ hi hN (ajc hT.o hc) hQ (Or.inl ⟨hw,hy⟩) ha h
theorem pB (i N:Nat)(hT:af (fD md ops=T))(h:fF P md ops Q S ds fuel (l.setIfInBounds i true) a' w)
  (hi:ops[i]? = some oi:=by exact rfl) (hN:oi.dst=some N:=by exact rfl) (hc:NR T l.toList (l.setIfInBounds i true).toList i=true:=by kernel_rfl)
  (hw:Region.wanted oi (yielded ops a.tmps)=false:=by rfl)
  (ha:a.put (some N) undef=a':=by (simp only [Act.put,List.setIfInBounds_toArray,List.set_cons_zero,List.set_cons_succ,fC,gK];rfl))
  (hQ:∀ c a w,Q (.panic c) (a.put oi.dst undef) w→Q (.panic c) a w:=by exact fun _ _ _ h=>h):fF P md ops Q S ds (fuel+1) l a w :=
 PI _ hi hN (ajc hT.o hc) hQ (Or.inr ⟨hw,rfl⟩) ha h
theorem tA (i N:Nat)(hT:af (fD md ops=T))(hB:af (jg T.2 B=true))(hS:S w)(h:fF P md ops Q S ds fuel (l.setIfInBounds i true) a' w)
  (hi:ops[i]? = some oi:=by exact rfl) (hN:oi.dst=some N:=by exact rfl) (hc:aa6 T B ds l.toList (l.setIfInBounds i true).toList i=true:=by kernel_rfl)
  (hw:Region.wanted oi (yielded ops a.tmps)=true:=by rfl) (hy:∀ w,S w→(execOp a.eval oi).run P w=.ok (.value v) w:=by (intro w' hs;go_simp;with_reducible rfl))
  (ha:a.put (some N) v=a':=by (simp only [Act.put,List.setIfInBounds_toArray,List.set_cons_zero,List.set_cons_succ,fC,gK];rfl))
  (hQ:∀ c a w,Q (.panic c) (a.put oi.dst v) w→Q (.panic c) a w:=by exact fun _ _ _ h=>h):fF P md ops Q S ds (fuel+1) l a w :=
 F7 _ hi hN (aoi hT.o hB.o hc) hQ (Or.inl ⟨hw,hy⟩) hS ha h
def St (P:Program)(md:Region.Mode)(ops:Array Oper)(Q:Exit→Act→World→Prop)(S:World→Prop)(ds:List Nat)(l:Array Bool)(i:Nat)(a a':Act):Prop:=∀ fuel w,fF P md ops Q S ds fuel (l.setIfInBounds i true) a' w→fF P md ops Q S ds (fuel+1) l a w
theorem sA {i N:Nat}(hT:af (fD md ops=T))(hi:ops[i]? = some oi:=by exact rfl)(hN:oi.dst=some N:=by exact rfl)(hw:Region.wanted oi (yielded ops a.tmps)=true:=by rfl)
  (hc:NR T l.toList (l.setIfInBounds i true).toList i=true:=by kernel_rfl) (hy:∀ w,(execOp a.eval oi).run P w=.ok (.value v) w:=by (intro w';go_simp;with_reducible rfl))
  (ha:a.put (some N) v=a':=by (simp only [Act.put,List.setIfInBounds_toArray,List.set_cons_zero,List.set_cons_succ,fC,gK];rfl))
  (hQ:∀ c a w,Q (.panic c) (a.put oi.dst v) w→Q (.panic c) a w:=by exact fun _ _ _ h=>h):St P md ops Q S ds l i a a':=fun _ _ h=>pA i N hT h hi hN hc hw hy ha hQ
theorem sB {i N:Nat}(hT:af (fD md ops=T))(hi:ops[i]? = some oi:=by exact rfl)(hN:oi.dst=some N:=by exact rfl)(hw:Region.wanted oi (yielded ops a.tmps)=false:=by rfl)
  (hc:NR T l.toList (l.setIfInBounds i true).toList i=true:=by kernel_rfl)
  (ha:a.put (some N) undef=a':=by (simp only [Act.put,List.setIfInBounds_toArray,List.set_cons_zero,List.set_cons_succ,fC,gK];rfl))
  (hQ:∀ c a w,Q (.panic c) (a.put oi.dst undef) w→Q (.panic c) a w:=by exact fun _ _ _ h=>h):St P md ops Q S ds l i a a':=fun _ _ h=>pB i N hT h hi hN hc hw ha hQ
theorem bQ (i:Nat)(h:fF P md ops Q S ds fuel (l.setIfInBounds i true) a' w)
  (s:St P md ops Q S ds l i a a':=by first|exact sA HT_|exact sB HT_):fF P md ops Q S ds (fuel+1) l a w:=s _ _ h
theorem jU (i:Nat){a1:Act}(h:fF P md ops Q S ds fuel ((l.setIfInBounds i true).setIfInBounds (i+1) true) a' w)
  (s:St P md ops Q S ds l i a a1:=by first|exact sA HT_|exact sB HT_) (s2:St P md ops Q S ds (l.setIfInBounds i true) (i+1) a1 a':=by first|exact sA HT_|exact sB HT_):fF P md ops Q S ds (fuel+2) l a w:=s _ _ (s2 _ _ h)
theorem jo (i:Nat){a1 a2:Act}(h:fF P md ops Q S ds fuel (((l.setIfInBounds i true).setIfInBounds (i+1) true).setIfInBounds (i+2) true) a' w)
  (s:St P md ops Q S ds l i a a1:=by first|exact sA HT_|exact sB HT_) (s2:St P md ops Q S ds (l.setIfInBounds i true) (i+1) a1 a2:=by first|exact sA HT_|exact sB HT_) (s3:St P md ops Q S ds ((l.setIfInBounds i true).setIfInBounds (i+1) true) (i+2) a2 a':=by first|exact sA HT_|exact sB HT_):fF P md ops Q S ds (fuel+3) l a w:=s _ _ (s2 _ _ (s3 _ _ h))
theorem jV (i:Nat){a1 a2 a3:Act}(h:fF P md ops Q S ds fuel ((((l.setIfInBounds i true).setIfInBounds (i+1) true).setIfInBounds (i+2) true).setIfInBounds (i+3) true) a' w)
  (s:St P md ops Q S ds l i a a1:=by first|exact sA HT_|exact sB HT_) (s2:St P md ops Q S ds (l.setIfInBounds i true) (i+1) a1 a2:=by first|exact sA HT_|exact sB HT_) (s3:St P md ops Q S ds ((l.setIfInBounds i true).setIfInBounds (i+1) true) (i+2) a2 a3:=by first|exact sA HT_|exact sB HT_) (s4:St P md ops Q S ds (((l.setIfInBounds i true).setIfInBounds (i+1) true).setIfInBounds (i+2) true) (i+3) a3 a':=by first|exact sA HT_|exact sB HT_):fF P md ops Q S ds (fuel+4) l a w:=s _ _ (s2 _ _ (s3 _ _ (s4 _ _ h)))
theorem mF (i:Nat){a1:Act}(h:fF P md ops Q S ds fuel ((((((((l.setIfInBounds i true).setIfInBounds (i+1) true).setIfInBounds (i+2) true).setIfInBounds (i+3) true).setIfInBounds (i+4) true).setIfInBounds (i+5) true).setIfInBounds (i+6) true).setIfInBounds (i+7) true) a' w)
  (s:∀ fuel w,fF P md ops Q S ds fuel ((((l.setIfInBounds i true).setIfInBounds (i+1) true).setIfInBounds (i+2) true).setIfInBounds (i+3) true) a1 w→fF P md ops Q S ds (fuel+4) l a w:=by exact fun _ _ h=>jV _ h) (s2:∀ fuel w,fF P md ops Q S ds fuel ((((((((l.setIfInBounds i true).setIfInBounds (i+1) true).setIfInBounds (i+2) true).setIfInBounds (i+3) true).setIfInBounds (i+4) true).setIfInBounds (i+5) true).setIfInBounds (i+6) true).setIfInBounds (i+7) true) a' w→fF P md ops Q S ds (fuel+4) ((((l.setIfInBounds i true).setIfInBounds (i+1) true).setIfInBounds (i+2) true).setIfInBounds (i+3) true) a1 w:=by exact fun _ _ h=>jV _ h):fF P md ops Q S ds (fuel+8) l a w:=s _ _ (s2 _ _ h)
theorem ta (i:Nat){N:Nat}(h:fF P md ops Q S ds fuel (l.setIfInBounds i true) a' w)(hT:af (fD md ops=T):=by exact HT_)(hB:af (jg T.2 B=true):=by exact HW_)(hS:S w:=by exact hHeld)
  (hi:ops[i]? = some oi:=by exact rfl) (hN:oi.dst=some N:=by exact rfl) (hc:aa6 T B ds l.toList (l.setIfInBounds i true).toList i=true:=by kernel_rfl)
  (hw:Region.wanted oi (yielded ops a.tmps)=true:=by rfl) (hy:∀ w,S w→(execOp a.eval oi).run P w=.ok (.value v) w:=by (intro w' hs;go_simp;with_reducible rfl))
  (ha:a.put (some N) v=a':=by (simp only [Act.put,List.setIfInBounds_toArray,List.set_cons_zero,List.set_cons_succ,fC,gK];rfl))
  (hQ:∀ c a w,Q (.panic c) (a.put oi.dst v) w→Q (.panic c) a w:=by exact fun _ _ _ h=>h):fF P md ops Q S ds (fuel+1) l a w:=tA i N hT hB hS h hi hN hc hw hy ha hQ
theorem pu (i N:Nat)(l':Array Bool)(h:fF P md ops Q S ds fuel l' a' w)(hi:ops[i]? = some oi:=by exact rfl)(hN:oi.dst=some N:=by exact rfl)(hc:R3 md ops l l' i=true:=by kernel_rfl)
  (hw:Region.wanted oi (yielded ops a.tmps)=true:=by rfl) (hy:∀ w,(execOp a.eval oi).run P w=.ok (.value v) w:=by (intro w';go_simp;with_reducible rfl))
  (ha:a.put (some N) v=a':=by (simp only [Act.put,List.setIfInBounds_toArray,List.set_cons_zero,List.set_cons_succ,fC,gK];rfl))
  (hQ:∀ c a w,Q (.panic c) (a.put oi.dst v) w→Q (.panic c) a w:=by exact fun _ _ _ h=>h):fF P md ops Q S ds (fuel+1) l a w:=PI l' hi hN hc hQ (Or.inl ⟨hw,hy⟩) ha h
theorem tu (i N:Nat)(l':Array Bool)(h:fF P md ops Q S ds fuel l' a' w)(hS:S w:=by exact hHeld)(hi:ops[i]? = some oi:=by exact rfl)(hN:oi.dst=some N:=by exact rfl)(hc:takeB md ops ds l l' i=true:=by kernel_rfl)
  (hw:Region.wanted oi (yielded ops a.tmps)=true:=by rfl) (hy:∀ w,S w→(execOp a.eval oi).run P w=.ok (.value v) w:=by (intro w' hs;go_simp;with_reducible rfl))
  (ha:a.put (some N) v=a':=by (simp only [Act.put,List.setIfInBounds_toArray,List.set_cons_zero,List.set_cons_succ,fC,gK];rfl))
  (hQ:∀ c a w,Q (.panic c) (a.put oi.dst v) w→Q (.panic c) a w:=by exact fun _ _ _ h=>h):fF P md ops Q S ds (fuel+1) l a w:=F7 l' hi hN hc hQ (Or.inl ⟨hw,hy⟩) hS ha h
theorem oA (i N:Nat)(hT:af (fD md ops=T))
  (h:∀ K:Act→World→Prop,Shut (∀ a' w',S w'→(S w'→fF P md ops Q S ds fuel (l.setIfInBounds i true) a' w')→K a' w')→if Region.wanted oi (yielded ops a.tmps)=true then Oper.wp P oi a w K Q else K (a.put (some N) undef) w)
  (hi:ops[i]? = some oi:=by exact rfl) (hN:oi.dst=some N:=by exact rfl) (hc:(LV T.2 l.toList == [i] && l.toList.set i true == (l.setIfInBounds i true).toList)=true:=by kernel_rfl) (hd:i ∉ ds:=by decide):fF P md ops Q S ds (fuel+1) l a w :=
 o9 _ hi hN (xH hT.o hc) hd h
theorem gA {N: Option Tmp}{K: Act → World → Prop}{f: FuncId}{fn: Func}{Dl: Array Operand}{ts: Array TypeId}(hf: P.funcs[f]? = some fn)(args: Array Value)
    (h : Calls P f args w fun e w' => ∃ v, e = .returned v ∧ K (a.put N v) w') (hname : (fn.name == "runtime.NumGoroutine") = false := by kernel_rfl) (hb : fn.body.isSome = true := by exact rfl)
    (hw : Region.wanted oi (yielded ops a.tmps) = true := by rfl) (hN : oi.dst = N := by exact rfl) (hop : oi.op = .call { callee := .value (.func f), args := Dl, argTypes := ts } := by exact rfl)
    (hargs : Dl.map a.eval = args := by (try simp only [List.map_toArray, List.map_cons, List.map_nil]); first | done | rfl | (simp only [List.length_drop, List.length_take]; rfl)) : if Region.wanted oi (yielded ops a.tmps) = true then Oper.wp P oi a w K Q else K (a.put N undef) w :=
  avR hf hname hb args hw hN hop hargs h
theorem nA (N:Nat)(h:fF P md ops Q S ds fuel l a' w)(ha:a.put (some N) v=a':=by (simp only [Act.put,List.setIfInBounds_toArray,List.set_cons_zero,List.set_cons_succ,fC,gK];rfl)):fF P md ops Q S ds fuel l (a.put (some N) v) w:=Wi ha h
end
section
variable {P : Program} {ops : Array Oper} {Q : Exit → Act → World → Prop} {o : Oper} {rest : List Oper} {a : Act}
theorem bx {W:World}(N:Tmp){cs:Array Value}{t:TypeId}(h:∀ g,g=W.heap.size→∀ w1,w1.heap[g]? = some (.cells cs t (0,0))→Below W.heap.size W w1→wpList P ops Q rest (a.put o.dst (.pointer (some ⟨g,0,none⟩))) w1)
  (hd:o.dst=some N:=by rfl) (hg:o.guard=none:=by rfl) (hr:(execOp a.eval o).run P W=.ok (.value (.pointer (some ⟨W.heap.size,0,none⟩))) (W.alloc (.cells cs t (0,0))):=by first|(go_simp;done)|(go_simp;rfl)):wpList P ops Q (o :: rest) a W :=
 ajr hg hd hr h
end
theorem _root_.Go.Proofs.bB.eH.gI.far {w w1 w2:World}{g gl:Nat}{row:Option Nat}(h:gI w w1 g row)(k:gI w1 w2 gl none)(hge:w.heap.size≤gl):gI w w2 g row :=
 ⟨Nat.le_trans h.1 k.1,fun i hi hg hr=>(k.2 i (Nat.lt_of_lt_of_le hi h.1) (by omega) (by simp)).trans (h.2 i hi hg hr)⟩
theorem bs {w W W':World}(h:af (Below w.heap.size w W))(e:Below w.heap.size w W→Below w.heap.size w W':=by (intro h;repeat (first|(with_reducible first|exact h|apply kG|apply jH|apply cZ)|refine eX ?_ (af.o (by assumption))|exact h))):Below w.heap.size w W':=e h.o
theorem ks {W W':World}{g:Nat}{t:TypeId}{cs:Array Value}(h:af (W.heap[g]? = some (.cells cs t (0,0))))(e:W.heap[g]? = some (.cells cs t (0,0))→W'.heap[g]? = some (.cells cs t (0,0)):=by (intro h;repeat (first|(with_reducible first|exact h|refine mo ?_ _|refine bD ?_|refine eY ?_ _)|refine Kh ?_ (af.o (by assumption)) _|exact h))):W'.heap[g]? = some (.cells cs t (0,0)):=e h.o
theorem rs {α:Type}{d:Kd α}{e base:Nat}{W W':World}{ok:Nat→Prop}{v:Value}{xs:List α}(h:af (d.R e W base ok v xs))(k:d.R e W base ok v xs→d.R e W' base ok v xs:=by (intro h;(with_reducible repeat (first|apply Kd.kM|apply Kd.jK|apply Kd.eO));exact h)):d.R e W' base ok v xs:=k h.o
theorem azm {w:World}{g:Nat}{t:TypeId}{cs:Array Value}(h:w.heap[g]? = some (.cells cs t (0,0)))(i:Nat)(u:Value):(w.setCell ⟨g,i,none⟩ u).heap[g]? = some (.cells (cs.setIfInBounds i u) t (0,0)):=atj h i u rfl
theorem avF {w:World}{g:Nat}{t:TypeId}{cs cs':Array Value}(h:w.heap[g]? = some (.cells cs t (0,0)))(e:cs=cs'):w.heap[g]? = some (.cells cs' t (0,0)):=e ▸ h
theorem avD {w:World}{g:Nat}{t:TypeId}{p:Addr}(hp:af (g≠p.block)){cs:Array Value}(h:w.heap[g]? = some (.cells cs t (0,0)))(u:Value):(w.setCell p u).heap[g]? = some (.cells cs t (0,0)):=Kh h hp.o u
theorem kp {W W':World}{g:Nat}{t:TypeId}{cs cs':Array Value}(h:af (W.heap[g]? = some (.cells cs t (0,0))))(e:W.heap[g]? = some (.cells cs t (0,0))→W'.heap[g]? = some (.cells cs' t (0,0)):=by (intro h;apply avF;(· repeat (first|(with_reducible first|exact h|refine mo ?_ _|refine bD ?_|refine eY ?_ _)|(with_reducible apply azm)|((with_reducible apply avD);assumption)|exact h));(· first|(simp only [List.setIfInBounds_toArray,List.set_cons_zero,List.set_cons_succ];done)|rfl))):W'.heap[g]? = some (.cells cs' t (0,0)):=e h.o
theorem gs {w W:World}{g:Nat}(hg:g=W.heap.size)(h:Below w.heap.size w W):w.heap.size≤g:=hg ▸ h.size
theorem gn {W:World}{g g':Nat}{o:Obj}(hg:g'=W.heap.size)(h:W.heap[g]? = some o):g≠g':=by rw [hg];exact Nat.ne_of_lt (pR h)
theorem gm {W:World}{g g':Nat}{o:Obj}(hg:g'=W.heap.size)(h:W.heap[g]? = some o):g'≠g:=(gn hg h).symm
theorem bq {w W W' W2:World}(h:af (Below w.heap.size w W))(hb:Below W'.heap.size W' W2)(e:Below w.heap.size w W→Below w.heap.size w W':=by (intro h;repeat (first|(with_reducible first|exact h|apply kG|apply jH|apply cZ)|refine eX ?_ (af.o (by assumption))|exact h))):af (Below w.heap.size w W2):=af.mk (gP (e h.o) hb)
theorem gw {w W W':World}{g:Nat}(hg:g=W'.heap.size)(h:af (Below w.heap.size w W))(e:Below w.heap.size w W→Below w.heap.size w W':=by (intro h;repeat (first|(with_reducible first|exact h|apply kG|apply jH|apply cZ)|refine eX ?_ (af.o (by assumption))|exact h))):af (w.heap.size≤g):=af.mk (gs hg (e h.o))
theorem bb {W W' W2:World}{g:Nat}{t:TypeId}{cs:Array Value}(h:af (W.heap[g]? = some (.cells cs t (0,0))))(hb:Below W'.heap.size W' W2)(e:W.heap[g]? = some (.cells cs t (0,0))→W'.heap[g]? = some (.cells cs t (0,0)):=by (intro h;repeat (first|(with_reducible first|exact h|refine mo ?_ _|refine bD ?_|refine eY ?_ _)|refine Kh ?_ (af.o (by assumption)) _|exact h))):af (W2.heap[g]? = some (.cells cs t (0,0))):=af.mk (aU (e h.o) hb)
theorem na {W W':World}{g g':Nat}{t:TypeId}{cs:Array Value}(hg:g'=W'.heap.size)(h:af (W.heap[g]? = some (.cells cs t (0,0))))(e:W.heap[g]? = some (.cells cs t (0,0))→W'.heap[g]? = some (.cells cs t (0,0)):=by (intro h;repeat (first|(with_reducible first|exact h|refine mo ?_ _|refine bD ?_|refine eY ?_ _)|refine Kh ?_ (af.o (by assumption)) _|exact h))):af (g≠g'):=af.mk (gn hg (e h.o))
theorem nc {W W':World}{g g':Nat}{t:TypeId}{cs:Array Value}(hg:g'=W'.heap.size)(h:af (W.heap[g]? = some (.cells cs t (0,0))))(e:W.heap[g]? = some (.cells cs t (0,0))→W'.heap[g]? = some (.cells cs t (0,0)):=by (intro h;repeat (first|(with_reducible first|exact h|refine mo ?_ _|refine bD ?_|refine eY ?_ _)|refine Kh ?_ (af.o (by assumption)) _|exact h))):af (g'≠g):=af.mk (gm hg (e h.o))
theorem nl {w:World}{p:Addr}{v:Value}{b g:Nat}(h:w.cell? p=some v)(G:af (w.heap.size≤g))(e:p.block=b:=by first|rfl|exact add_block _ _):b≠g:=e ▸ Nat.ne_of_lt (Nat.lt_of_lt_of_le (World.block_lt_of_cell? _ _ h) G.o)
theorem nz {a b g:Nat}(h:a≠g)(e:b=a:=by first|rfl|exact add_block _ _):b≠g:=e ▸ h
theorem sd {α:Type}{d:Kd α}{w0 w1:World}{A:Option Addr}{n:Nat}{l:List α}(h:d.C w0 A n l)(e:d.C w0 A n l→d.C w1 A n l:=by (intro h;repeat (first|exact h|(with_reducible refine Kd.rO ?_ _)|(with_reducible refine Kd.rQ ?_ _)|(with_reducible refine Kd.rP ?_)))):d.C w1 A n l:=e h
theorem rz {p q:Prop}(x:q)(e:q→p:=by (intro h;(with_reducible repeat (first|apply Kd.kM|apply Kd.jK|apply Kd.eO));exact h)):p:=e x
theorem dr {p:Prop}(h:p:=by repeat (first|exact aW.refl _|apply aW.step)):p:=h
section
variable {P : Program} {ops : Array Oper} {Q : Exit → Act → World → Prop} {o : Oper} {rest : List Oper} {a : Act}
theorem bz {w0 w W:World}(N:Tmp){cs:Array Value}{t:TypeId}(HB:af (Below w0.heap.size w0 w))(h:∀ g,g=W.heap.size→∀ w1,af (w1.heap[g]? = some (.cells cs t (0,0)))→af (w0.heap.size≤g)→Below W.heap.size W w1→af (Below w0.heap.size w0 w1)→wpList P ops Q rest (a.put o.dst (.pointer (some ⟨g,0,none⟩))) w1)
  (e:Below w0.heap.size w0 w→Below w0.heap.size w0 W:=by (intro h;repeat (first|(with_reducible first|exact h|apply kG|apply jH|apply cZ)|refine eX ?_ (af.o (by assumption))|exact h))) (hd:o.dst=some N:=by rfl) (hg:o.guard=none:=by rfl) (hr:(execOp a.eval o).run P W=.ok (.value (.pointer (some ⟨W.heap.size,0,none⟩))) (W.alloc (.cells cs t (0,0))):=by first|(go_simp;done)|(go_simp;rfl)):wpList P ops Q (o :: rest) a W :=
 ajr hg hd hr (fun g hg' w1 hb hW=>h g hg' w1 (af.mk hb) (af.mk (gs hg' (e HB.o))) hW (af.mk (gP (e HB.o) hW)))
theorem rl {α:Type}(d:Kd α){W:World}(e:Nat){N:Tmp}{xs:List α}{inner:List Value}
  (hrep:aV (d.M W W.heap.size (fun _=>True)) d.sz xs inner)
  (h:∀ v1 w1,d.R e w1 W.heap.size (fun _=>True) v1 xs→Below W.heap.size W w1→W.grownBy w1 none→(∃ b,v1.ownBlock=some b∧W.heap.size≤b)→wpList P ops Q rest (a.put o.dst v1) w1)
  (hg:o.guard=none:=by rfl) (hd:o.dst=some N:=by rfl) (hr:(execOp a.eval o).run P W=.ok (.value (.slice (some ⟨W.heap.size,0,none⟩) xs.length xs.length)) (W.alloc (.cells inner.toArray e)):=by first|(go_simp;done)|(go_simp;rfl))
  (hm:xs.length≤9223372036854775807:=by simp):wpList P ops Q (o :: rest) a W :=
 Kd.NG d _ e hg hd hr hrep (fun _ hk=>hk) trivial (Below.refl _ _) (Nat.le_refl _) hm h
end
theorem oa {p:Prop}[Decidable p](h:decide p=true:=by first|(with_reducible assumption)|assumption):p:=of_decide_eq_true h
theorem wi {p q P:Prop}[Decidable p][Decidable q](f:p→q→P)(a:decide p=true:=by first|(with_reducible assumption)|assumption)(b:decide q=true:=by first|(with_reducible assumption)|assumption):p=True∧q=True∧P:=⟨eq_true (of_decide_eq_true a),eq_true (of_decide_eq_true b),f (of_decide_eq_true a) (of_decide_eq_true b)⟩
theorem rf {α:Type}{d:Kd α}{e base:Nat}{W W':World}{ok:Nat→Prop}{v:Value}{xs:List α}(h:d.R e W base ok v xs)(k:d.R e W base ok v xs→d.R e W' base ok v xs:=by (intro h;repeat (first|(with_reducible first|exact h|apply Kd.kM|apply Kd.jK|apply Kd.eO)|refine Kd.qC ?_ (fun _ hk=>hk.2) _|exact h))):d.R e W' base ok v xs:=k h
theorem cb {w W:World}{p:Addr}{v:Value}(h:af (Below w.heap.size w W))(hx:w.cell? p=some v):W.cell? p=some v:=(h.o.cell (World.block_lt_of_cell? w _ hx)).trans hx
theorem ff {p:Prop}(h:p:=by first|rfl|(simp [qF,qG] <;> rfl)|(simp [*,qF,qG] <;> rfl)):p:=h
theorem fg {p:Prop}(h:p:=by first|rfl|(simp;done)|(simp [*];done)):p:=h
theorem fl {m n:Nat}(h:m≤n:=by first|omega|exact Nat.le_refl _):m≤n:=h
theorem vB {w:World}{g:Nat}{t:TypeId}{v0:Value}(h:af (w.heap[g]? = some (.cells #[v0] t (0,0)))):w.cell? ⟨g,0,none⟩=some v0∧w.frozen? ⟨g,0,none⟩=false :=
 ⟨(aA h.o 0).trans rfl,bu h.o 0⟩
theorem fM {w:World}{g:Nat}{t:TypeId}{v0 v1:Value}(h:af (w.heap[g]? = some (.cells #[v0,v1] t (0,0)))):w.cell? ⟨g,0,none⟩=some v0∧w.cell? ⟨g,1,none⟩=some v1∧w.frozen? ⟨g,0,none⟩=false∧w.frozen? ⟨g,1,none⟩=false :=
 ⟨(aA h.o 0).trans rfl,(aA h.o 1).trans rfl,bu h.o 0,bu h.o 1⟩
theorem lH {w:World}{g:Nat}{t:TypeId}{v0 v1 v2:Value}(h:af (w.heap[g]? = some (.cells #[v0,v1,v2] t (0,0)))):w.cell? ⟨g,0,none⟩=some v0∧w.cell? ⟨g,1,none⟩=some v1∧w.cell? ⟨g,2,none⟩=some v2∧w.frozen? ⟨g,0,none⟩=false∧w.frozen? ⟨g,1,none⟩=false∧w.frozen? ⟨g,2,none⟩=false :=
 ⟨(aA h.o 0).trans rfl,(aA h.o 1).trans rfl,(aA h.o 2).trans rfl,bu h.o 0,bu h.o 1,bu h.o 2⟩
theorem aX {w:World}{g:Nat}{t:TypeId}{v0 v1 v2 v3:Value}(h:af (w.heap[g]? = some (.cells #[v0,v1,v2,v3] t (0,0)))):w.cell? ⟨g,0,none⟩=some v0∧w.cell? ⟨g,1,none⟩=some v1∧w.cell? ⟨g,2,none⟩=some v2∧w.cell? ⟨g,3,none⟩=some v3∧w.frozen? ⟨g,0,none⟩=false∧w.frozen? ⟨g,1,none⟩=false∧w.frozen? ⟨g,2,none⟩=false∧w.frozen? ⟨g,3,none⟩=false :=
 ⟨(aA h.o 0).trans rfl,(aA h.o 1).trans rfl,(aA h.o 2).trans rfl,(aA h.o 3).trans rfl,bu h.o 0,bu h.o 1,bu h.o 2,bu h.o 3⟩
theorem kW {w:World}{g:Nat}{t:TypeId}{v0 v1 v2 v3 v4:Value}(h:af (w.heap[g]? = some (.cells #[v0,v1,v2,v3,v4] t (0,0)))):w.cell? ⟨g,0,none⟩=some v0∧w.cell? ⟨g,1,none⟩=some v1∧w.cell? ⟨g,2,none⟩=some v2∧w.cell? ⟨g,3,none⟩=some v3∧w.cell? ⟨g,4,none⟩=some v4∧w.frozen? ⟨g,0,none⟩=false∧w.frozen? ⟨g,1,none⟩=false∧w.frozen? ⟨g,2,none⟩=false∧w.frozen? ⟨g,3,none⟩=false∧w.frozen? ⟨g,4,none⟩=false :=
 ⟨(aA h.o 0).trans rfl,(aA h.o 1).trans rfl,(aA h.o 2).trans rfl,(aA h.o 3).trans rfl,(aA h.o 4).trans rfl,bu h.o 0,bu h.o 1,bu h.o 2,bu h.o 3,bu h.o 4⟩
theorem dO {w:World}{g:Nat}{t:TypeId}{v0 v1 v2 v3 v4 v5:Value}(h:af (w.heap[g]? = some (.cells #[v0,v1,v2,v3,v4,v5] t (0,0)))):w.cell? ⟨g,0,none⟩=some v0∧w.cell? ⟨g,1,none⟩=some v1∧w.cell? ⟨g,2,none⟩=some v2∧w.cell? ⟨g,3,none⟩=some v3∧w.cell? ⟨g,4,none⟩=some v4∧w.cell? ⟨g,5,none⟩=some v5∧w.frozen? ⟨g,0,none⟩=false∧w.frozen? ⟨g,1,none⟩=false∧w.frozen? ⟨g,2,none⟩=false∧w.frozen? ⟨g,3,none⟩=false∧w.frozen? ⟨g,4,none⟩=false∧w.frozen? ⟨g,5,none⟩=false :=
 ⟨(aA h.o 0).trans rfl,(aA h.o 1).trans rfl,(aA h.o 2).trans rfl,(aA h.o 3).trans rfl,(aA h.o 4).trans rfl,(aA h.o 5).trans rfl,bu h.o 0,bu h.o 1,bu h.o 2,bu h.o 3,bu h.o 4,bu h.o 5⟩
theorem KC {w:World}{g:Nat}{t:TypeId}{v0 v1 v2 v3 v4 v5 v6 v7:Value}(h:af (w.heap[g]? = some (.cells #[v0,v1,v2,v3,v4,v5,v6,v7] t (0,0)))):w.cell? ⟨g,0,none⟩=some v0∧w.cell? ⟨g,1,none⟩=some v1∧w.cell? ⟨g,2,none⟩=some v2∧w.cell? ⟨g,3,none⟩=some v3∧w.cell? ⟨g,4,none⟩=some v4∧w.cell? ⟨g,5,none⟩=some v5∧w.cell? ⟨g,6,none⟩=some v6∧w.cell? ⟨g,7,none⟩=some v7∧w.frozen? ⟨g,0,none⟩=false∧w.frozen? ⟨g,1,none⟩=false∧w.frozen? ⟨g,2,none⟩=false∧w.frozen? ⟨g,3,none⟩=false∧w.frozen? ⟨g,4,none⟩=false∧w.frozen? ⟨g,5,none⟩=false∧w.frozen? ⟨g,6,none⟩=false∧w.frozen? ⟨g,7,none⟩=false :=
 ⟨(aA h.o 0).trans rfl,(aA h.o 1).trans rfl,(aA h.o 2).trans rfl,(aA h.o 3).trans rfl,(aA h.o 4).trans rfl,(aA h.o 5).trans rfl,(aA h.o 6).trans rfl,(aA h.o 7).trans rfl,bu h.o 0,bu h.o 1,bu h.o 2,bu h.o 3,bu h.o 4,bu h.o 5,bu h.o 6,bu h.o 7⟩
theorem am {p:Prop}(h:p):af p:=⟨h⟩
abbrev azw (w:World)(g:Nat)(v0 v1:Value)(q:Prop):Prop:=w.cell? ⟨g,0,none⟩=some v0∧w.cell? ⟨g,1,none⟩=some v1∧q
theorem anK {q:Prop}{w:World}{g:Nat}{t:TypeId}{v0 v1:Value}(h:af (w.heap[g]? = some (.cells #[v0,v1] t (0,0))))(z:q):azw w g v0 v1 q:=⟨(aA h.o 0).trans rfl,(aA h.o 1).trans rfl,z⟩
abbrev qk5 (w:World)(g:Nat)(v0 v1 v2 v3 v4:Value):Prop:=w.cell? ⟨g,0,none⟩=some v0∧w.cell? ⟨g,1,none⟩=some v1∧w.cell? ⟨g,2,none⟩=some v2∧w.cell? ⟨g,3,none⟩=some v3∧w.cell? ⟨g,4,none⟩=some v4
abbrev azx (w:World)(g:Nat)(v0 v1 v2 v3 v4:Value)(q:Prop):Prop:=w.cell? ⟨g,0,none⟩=some v0∧w.cell? ⟨g,1,none⟩=some v1∧w.cell? ⟨g,2,none⟩=some v2∧w.cell? ⟨g,3,none⟩=some v3∧w.cell? ⟨g,4,none⟩=some v4∧q
abbrev qe5 (w:World)(p:Addr)(v0 v1 v2 v3 v4:Value):Prop:=w.cell? p=some v0∧w.cell? ⟨p.block,p.off+1,none⟩=some v1∧w.cell? ⟨p.block,p.off+2,none⟩=some v2∧w.cell? ⟨p.block,p.off+3,none⟩=some v3∧w.cell? ⟨p.block,p.off+4,none⟩=some v4
abbrev aaK (w:World)(g:Nat)(v0 v1 v2 v3 v4 v5:Value)(q:Prop):Prop:=w.cell? ⟨g,0,none⟩=some v0∧w.cell? ⟨g,1,none⟩=some v1∧w.cell? ⟨g,2,none⟩=some v2∧w.cell? ⟨g,3,none⟩=some v3∧w.cell? ⟨g,4,none⟩=some v4∧w.cell? ⟨g,5,none⟩=some v5∧q
theorem FX {q:Prop}{w:World}{g:Nat}{t:TypeId}{v0 v1 v2 v3 v4 v5:Value}(h:af (w.heap[g]? = some (.cells #[v0,v1,v2,v3,v4,v5] t (0,0))))(z:q):aaK w g v0 v1 v2 v3 v4 v5 q:=⟨(aA h.o 0).trans rfl,(aA h.o 1).trans rfl,(aA h.o 2).trans rfl,(aA h.o 3).trans rfl,(aA h.o 4).trans rfl,(aA h.o 5).trans rfl,z⟩
section
variable {α β : Type} {r : α} {x y : Option α} {P : Prop}
theorem bo {z:Option β}{f:β→Option α}(h:z.bind f=some r):∃ t,af (z=some t)∧f t=some r:=let ⟨t,a,b⟩:=Option.bind_eq_some_iff.mp h;⟨t,⟨a⟩,b⟩
theorem bt (b:Bool):b=true∨b=false:=by cases b <;> simp
theorem dm (H:(if true=true then x else y)=some r):x=some r:=H
theorem di (H:(if false=true then x else y)=some r):y=some r:=H
theorem bK {c:Prop}[Decidable c](h1:decide c=true→x=some r→P)(h2:decide c=false→y=some r→P)(H:(if c then x else y)=some r):P:=by
 by_cases h:c
 ·exact h1 (decide_eq_true h) (by rwa [if_pos h] at H)
 ·exact h2 (decide_eq_false h) (by rwa [if_neg h] at H)
theorem Ct {c:Prop}[Decidable c](h1:c→decide c=true→x=some r→P)(h2:¬ c→decide c=false→y=some r→P)(H:(if c then x else y)=some r):P:=bK (fun a=>h1 (of_decide_eq_true a) a) (fun a=>h2 (of_decide_eq_false a) a) H
theorem bv {c:Prop}[Decidable c](h1:decide c=true→x=some r→P)(H:(if c then x else none)=some r):P:=bK h1 (fun _ h=>by cases h) H
theorem qO {c:Prop}[Decidable c](h1:c→decide c=true→x=some r→P)(H:(if c then x else none)=some r):P:=Ct h1 (fun _ _ h=>by cases h) H
theorem gT {c:Prop}[Decidable c](h1:c→x=some r→P)(h2:¬ c→y=some r→P)(H:(if c then x else y)=some r):P:=Ct (fun a _=>h1 a) (fun a _=>h2 a) H
theorem ku {c:Prop}[Decidable c](h1:c→x=some r→P)(H:(if c then x else none)=some r):P:=gT h1 (fun _ h=>by cases h) H
theorem zz [BEq β][LawfulBEq β]{a b:β}[Decidable (a=b)](h1:a=b→(a == b)=true→(a != b)=false→x=some r→P)(h2:¬ a=b→(a == b)=false→(a != b)=true→y=some r→P)(H:(if a=b then x else y)=some r):P :=
 gT (fun c=>h1 c (beq_iff_eq.mpr c) (bne_eq_false_iff_eq.mpr c)) (fun c=>h2 c (beq_eq_false_iff_ne.mpr c) (bne_iff_ne.mpr c)) H
theorem bH [BEq β][LawfulBEq β]{a b:β}[Decidable (a=b)](h1:(a == b)=true→(a != b)=false→x=some r→P)(h2:¬ a=b→(a == b)=false→(a != b)=true→y=some r→P)(H:(if a=b then x else y)=some r):P:=zz (fun _=>h1) h2 H
theorem axL [BEq β][LawfulBEq β]{a b:β}[Decidable (a=b)](h1:a=b→(a == b)=true→(a != b)=false→x=some r→P)(H:(if a=b then x else none)=some r):P:=zz h1 (fun _ _ _ h=>by cases h) H
theorem Lb [BEq β][LawfulBEq β]{a b:β}[Decidable (a=b)](h1:(a == b)=true→(a != b)=false→x=some r→P)(H:(if a=b then x else none)=some r):P:=bH h1 (fun _ _ _ h=>by cases h) H
theorem Ps {a:List UInt8}[Decidable (a=[])](h1:(a == ([]:List UInt8))=true→(a != ([]:List UInt8))=false→a.isEmpty=true→x=some r→P)(h2:¬ a=[]→(a == ([]:List UInt8))=false→(a != ([]:List UInt8))=true→a.isEmpty=false→y=some r→P)(H:(if a=[] then x else y)=some r):P :=
 zz (fun c p q=>h1 p q (List.isEmpty_iff.mpr c)) (fun c p q=>h2 c p q (by cases a with|nil=>exact absurd rfl c|cons _ _=>rfl)) H
theorem ye {γ:Type}{u v:γ}{p q:Prop}(h:u=v)(H:q)(e:u=v→q→p:=by (intro h_ H;first|(rw [h_];with_reducible exact H)|(have H2_:=(Option.bind_some _ _).symm.trans H;rw [h_];with_reducible exact H2_)|(have H2_:=(Option.bind_some _ _).symm.trans H;with_reducible exact H2_)|with_reducible exact H|(rw [h_];exact H)|exact H)):p:=e h H
end
theorem si {α:Type}{a b:α}(h:some a=some b):a=b:=Option.some.inj h
theorem xI {α0 α1:Type}{a0 b0:α0}{a1 b1:α1}(h:some (a0,a1)=some (b0,b1)):a0=b0∧a1=b1:=by cases h;exact ⟨rfl,rfl⟩
theorem yF {α0 α1 α2:Type}{a0 b0:α0}{a1 b1:α1}{a2 b2:α2}(h:some (a0,a1,a2)=some (b0,b1,b2)):a0=b0∧a1=b1∧a2=b2:=by cases h;exact ⟨rfl,rfl,rfl⟩
theorem F3 {α0 α1 α2 α3:Type}{a0 b0:α0}{a1 b1:α1}{a2 b2:α2}{a3 b3:α3}(h:some (a0,a1,a2,a3)=some (b0,b1,b2,b3)):a0=b0∧a1=b1∧a2=b2∧a3=b3:=by cases h;exact ⟨rfl,rfl,rfl,rfl⟩
theorem IY {α0 α1 α2 α3 α4:Type}{a0 b0:α0}{a1 b1:α1}{a2 b2:α2}{a3 b3:α3}{a4 b4:α4}(h:some (a0,a1,a2,a3,a4)=some (b0,b1,b2,b3,b4)):a0=b0∧a1=b1∧a2=b2∧a3=b3∧a4=b4:=by cases h;exact ⟨rfl,rfl,rfl,rfl,rfl⟩
theorem PR {α0 α1 α2 α3 α4 α5:Type}{a0 b0:α0}{a1 b1:α1}{a2 b2:α2}{a3 b3:α3}{a4 b4:α4}{a5 b5:α5}(h:some (a0,a1,a2,a3,a4,a5)=some (b0,b1,b2,b3,b4,b5)):a0=b0∧a1=b1∧a2=b2∧a3=b3∧a4=b4∧a5=b5:=by cases h;exact ⟨rfl,rfl,rfl,rfl,rfl,rfl⟩
theorem Wz {α0 α1 α2 α3 α4 α5 α6 α7:Type}{a0 b0:α0}{a1 b1:α1}{a2 b2:α2}{a3 b3:α3}{a4 b4:α4}{a5 b5:α5}{a6 b6:α6}{a7 b7:α7}(h:some (a0,a1,a2,a3,a4,a5,a6,a7)=some (b0,b1,b2,b3,b4,b5,b6,b7)):a0=b0∧a1=b1∧a2=b2∧a3=b3∧a4=b4∧a5=b5∧a6=b6∧a7=b7:=by cases h;exact ⟨rfl,rfl,rfl,rfl,rfl,rfl,rfl,rfl⟩
theorem kz {W:World}(W':World){g:Nat}{t:TypeId}{cs:Array Value}(h:af (W.heap[g]? = some (.cells cs t (0,0))))(e:W.heap[g]? = some (.cells cs t (0,0))→W'.heap[g]? = some (.cells cs t (0,0)):=by (intro h;repeat (first|(with_reducible first|exact h|refine mo ?_ _|refine bD ?_|refine eY ?_ _)|refine Kh ?_ (af.o (by assumption)) _|exact h))):af (W'.heap[g]? = some (.cells cs t (0,0))):=⟨e h.o⟩
structure sD (S:World→Prop) (w:World):Prop where
 o:S w
theorem hc {w:World}{a:Addr}{v:Value}(h:w.cell? a=some v):sD (fun w'=>w'.cell? a=some v) w:=⟨h⟩
theorem aC {w:World}{a:Addr}{v:Value}{S:World→Prop}(h:w.cell? a=some v)(s:sD S w):sD (fun w'=>w'.cell? a=some v∧S w') w:=⟨h,s.o⟩
theorem hb1 {w:World}{g:Nat}{t:TypeId}{v0:Value}(h:af (w.heap[g]? = some (.cells #[v0] t (0,0)))):sD (fun w'=>w'.cell? ⟨g,0,none⟩=some v0) w:=⟨(aA h.o 0).trans rfl⟩
theorem ZL {w:World}{g:Nat}{t:TypeId}{v0:Value}{S:World→Prop}(h:af (w.heap[g]? = some (.cells #[v0] t (0,0))))(s:sD S w):sD (fun w'=>w'.cell? ⟨g,0,none⟩=some v0∧S w') w:=⟨(aA h.o 0).trans rfl,s.o⟩
theorem hb2 {w:World}{g:Nat}{t:TypeId}{v0 v1:Value}(h:af (w.heap[g]? = some (.cells #[v0,v1] t (0,0)))):sD (fun w'=>w'.cell? ⟨g,0,none⟩=some v0∧w'.cell? ⟨g,1,none⟩=some v1) w:=⟨⟨(aA h.o 0).trans rfl,(aA h.o 1).trans rfl⟩⟩
theorem KJ {w:World}{g:Nat}{t:TypeId}{v0 v1:Value}{S:World→Prop}(h:af (w.heap[g]? = some (.cells #[v0,v1] t (0,0))))(s:sD S w):sD (fun w'=>w'.cell? ⟨g,0,none⟩=some v0∧w'.cell? ⟨g,1,none⟩=some v1∧S w') w:=⟨⟨(aA h.o 0).trans rfl,(aA h.o 1).trans rfl,s.o⟩⟩
theorem hb4 {w:World}{g:Nat}{t:TypeId}{v0 v1 v2 v3:Value}(h:af (w.heap[g]? = some (.cells #[v0,v1,v2,v3] t (0,0)))):sD (fun w'=>w'.cell? ⟨g,0,none⟩=some v0∧w'.cell? ⟨g,1,none⟩=some v1∧w'.cell? ⟨g,2,none⟩=some v2∧w'.cell? ⟨g,3,none⟩=some v3) w:=⟨⟨(aA h.o 0).trans rfl,(aA h.o 1).trans rfl,(aA h.o 2).trans rfl,(aA h.o 3).trans rfl⟩⟩
theorem rC {w:World}{g:Nat}{t:TypeId}{v0 v1 v2 v3:Value}{S:World→Prop}(h:af (w.heap[g]? = some (.cells #[v0,v1,v2,v3] t (0,0))))(s:sD S w):sD (fun w'=>w'.cell? ⟨g,0,none⟩=some v0∧w'.cell? ⟨g,1,none⟩=some v1∧w'.cell? ⟨g,2,none⟩=some v2∧w'.cell? ⟨g,3,none⟩=some v3∧S w') w:=⟨⟨(aA h.o 0).trans rfl,(aA h.o 1).trans rfl,(aA h.o 2).trans rfl,(aA h.o 3).trans rfl,s.o⟩⟩
theorem hb5 {w:World}{g:Nat}{t:TypeId}{v0 v1 v2 v3 v4:Value}(h:af (w.heap[g]? = some (.cells #[v0,v1,v2,v3,v4] t (0,0)))):sD (fun w'=>w'.cell? ⟨g,0,none⟩=some v0∧w'.cell? ⟨g,1,none⟩=some v1∧w'.cell? ⟨g,2,none⟩=some v2∧w'.cell? ⟨g,3,none⟩=some v3∧w'.cell? ⟨g,4,none⟩=some v4) w:=⟨⟨(aA h.o 0).trans rfl,(aA h.o 1).trans rfl,(aA h.o 2).trans rfl,(aA h.o 3).trans rfl,(aA h.o 4).trans rfl⟩⟩
theorem Hq {w:World}{g:Nat}{t:TypeId}{v0 v1 v2 v3 v4:Value}{S:World→Prop}(h:af (w.heap[g]? = some (.cells #[v0,v1,v2,v3,v4] t (0,0))))(s:sD S w):sD (fun w'=>w'.cell? ⟨g,0,none⟩=some v0∧w'.cell? ⟨g,1,none⟩=some v1∧w'.cell? ⟨g,2,none⟩=some v2∧w'.cell? ⟨g,3,none⟩=some v3∧w'.cell? ⟨g,4,none⟩=some v4∧S w') w:=⟨⟨(aA h.o 0).trans rfl,(aA h.o 1).trans rfl,(aA h.o 2).trans rfl,(aA h.o 3).trans rfl,(aA h.o 4).trans rfl,s.o⟩⟩
theorem hb6 {w:World}{g:Nat}{t:TypeId}{v0 v1 v2 v3 v4 v5:Value}(h:af (w.heap[g]? = some (.cells #[v0,v1,v2,v3,v4,v5] t (0,0)))):sD (fun w'=>w'.cell? ⟨g,0,none⟩=some v0∧w'.cell? ⟨g,1,none⟩=some v1∧w'.cell? ⟨g,2,none⟩=some v2∧w'.cell? ⟨g,3,none⟩=some v3∧w'.cell? ⟨g,4,none⟩=some v4∧w'.cell? ⟨g,5,none⟩=some v5) w:=⟨⟨(aA h.o 0).trans rfl,(aA h.o 1).trans rfl,(aA h.o 2).trans rfl,(aA h.o 3).trans rfl,(aA h.o 4).trans rfl,(aA h.o 5).trans rfl⟩⟩
theorem qJ {w:World}{g:Nat}{t:TypeId}{v0 v1 v2 v3 v4 v5:Value}{S:World→Prop}(h:af (w.heap[g]? = some (.cells #[v0,v1,v2,v3,v4,v5] t (0,0))))(s:sD S w):sD (fun w'=>w'.cell? ⟨g,0,none⟩=some v0∧w'.cell? ⟨g,1,none⟩=some v1∧w'.cell? ⟨g,2,none⟩=some v2∧w'.cell? ⟨g,3,none⟩=some v3∧w'.cell? ⟨g,4,none⟩=some v4∧w'.cell? ⟨g,5,none⟩=some v5∧S w') w:=⟨⟨(aA h.o 0).trans rfl,(aA h.o 1).trans rfl,(aA h.o 2).trans rfl,(aA h.o 3).trans rfl,(aA h.o 4).trans rfl,(aA h.o 5).trans rfl,s.o⟩⟩
section
variable {P : Program} {ops : Array Oper} {Q : Exit → Act → World → Prop} {S : World → Prop} {ds : List Nat} {id : Nat} {a : Act} {w : World} {l : Array Bool}
theorem gD (n:Nat)(hS:sD S w.drew)(h:S w.drew→fF P .any ops Q S [] n l a w.drew)(hm:P.follows .mixedOrders=true:=by kernel_rfl)(hn:ops.size=n:=by rfl)(hl:Array.replicate n false=l:=by rfl):(Code.region id ops true).wp P Q a w:=PW l hm hn hl hS.o h
theorem CE (n:Nat)(ds:List Nat)(hS:sD S w.drew)(h:S w.drew→fF P .any ops Q S ds n l a w.drew)(hm:P.follows .mixedOrders=true:=by kernel_rfl)(hn:ops.size=n:=by rfl)(hl:Array.replicate n false=l:=by rfl):(Code.region id ops true).wp P Q a w:=PW l hm hn hl hS.o h
end
def TyP (b:Nat)(W:World)(E:List TypeId)(k:Nat):Prop:=b≤k∧∃ q,q ∈ E∧∃ cells,W.heap[k]? = some (.cells cells q (0,0))
section
variable {α : Type} {d : Kd α} {e base b g : Nat} {W : World} {ok : Nat → Prop} {v : Value} {xs : List α} {E : List TypeId}
theorem asv (h:d.R e W base ok v xs)(hE:∀ q,q ∈ e :: d.E→¬ q ∈ E):d.R e W base (fun k=>ok k∧¬ TyP b W E k) v xs:=Kd.dE (Kd.rV h) (fun _ hk=>⟨hk.1,fun ht=>ht.2.elim fun q hq=>hq.2.elim fun _ hc=>hk.2.2.2.elim fun p hp=>hp.2.elim fun _ hd=>hE p hp.1 (by
 rw [hc] at hd
 injection hd with hd
 injection hd with _ hd
 rw [← hd]
 exact hq.1)⟩)
end
structure tN {α:Type} (d:Kd α) (e:TypeId) (P:Nat→Prop) (w0 w:World) (g n cap:Nat) (xs:List α) (i:Int) (oki:Nat→Prop) (c:List Value) (W:World):Prop where
 hH:Kd.H d e W w0.heap.size (fun k=>(P k∨w.heap.size≤k)) (.slice (some ⟨g,0,none⟩) n cap) xs i oki c
 hB:Below w0.heap.size w0 W
 hK:Kept w W P
 hP:P g∨w.heap.size≤g
 hb:w0.heap.size≤g
 h0:0≤i
 h1:i<n
section
variable {α : Type} {d : Kd α} {e : TypeId} {P oki : Nat → Prop} {w0 w W W2 : World} {g n cap : Nat} {xs : List α} {i : Int} {c : List Value} {v : Value}
theorem aiZ (hf:∀ w b ok x cs,d.M w b ok x cs→d.M w b (fun _=>False) x cs){ok:Nat→Prop}{b:Nat}(h:d.R e W b ok v xs):Kd.S d e W b ok v xs:=by
 obtain ⟨h0,inner,ho,hr⟩:=h
 exact Kd.aiY ⟨h0,inner,ho,hr.xy (fun _ _ hp=>hf _ _ _ _ _ hp)⟩
theorem hol (z:α)(i:Int)(h:Kd.S d e W w0.heap.size (fun k=>(P k∨w.heap.size≤k)) v xs)(hB:Below w0.heap.size w0 W)(hK:Kept w W P)(h0:0≤i)(h1:i<(xs.length:Int)) :
  ∃ g cap oki c,v=.slice (some ⟨g,0,none⟩) xs.length cap∧d.M W w0.heap.size oki (xs.getD i.toNat z) c∧tN d e P w0 w g xs.length cap xs i oki c W:=by
 obtain ⟨g,cap,rfl,hb,_,_⟩:=Kd.NN h (by omega)
 obtain ⟨oki,c,_,hM,_,_,_,hH⟩:=Kd.Ka h z i h0 h1
 exact ⟨g,cap,oki,c,rfl,hM,hH,hB,hK,(Kd.rW h).1 g rfl,hb,h0,h1⟩
theorem tN.below (h:tN d e P w0 w g n cap xs i oki c W)(hb:Below W.heap.size W W2):tN d e P w0 w g n cap xs i oki c W2:=⟨Kd.Yf h.hH hb,gP h.hB hb,Kept.below h.hK hb,h.hP,h.hb,h.h0,h.h1⟩
theorem tN.put (h:tN d e P w0 w g n cap xs i oki c W)(j:Nat)(u:Value)(hj:j+1≤d.sz)(hu:u.oneCell'=true)(hw:W2=W.setCell ⟨g,i.toNat * d.sz+j,none⟩ u):tN d e P w0 w g n cap xs i oki (c.take j++[u]++c.drop (j+1)) W2:=by
 subst hw
 obtain ⟨q,hg⟩:=Kd.Yg h.hH h.h0 h.h1 (seg:=[u]) (j:=j) hj (fun q hq=>by
  rw [List.mem_singleton.1 hq]
  exact hu)
 exact ⟨q,eX h.hB h.hb,Kept.aaA (S:=P) hg h.hK (fun k hk=>by
  injection hk with hk
  subst hk
  exact h.hP),h.hP,h.hb,h.h0,h.h1⟩
theorem tN.nx (h:tN d e P w0 w g n cap xs i oki c W)(s j:Nat){u v:Value}(hs:d.sz=s)(hu:c[0]? = some u)(hv:c[j]? = some v):W.cell? ⟨g,i.toNat * s,none⟩=some u∧W.cell? ⟨g,i.toNat * s+j,none⟩=some v∧W.frozen? ⟨g,i.toNat * s+j,none⟩=false:=by
 subst hs
 obtain ⟨h1,h2⟩:=Kd.Gy h.hH h.h0 h.h1
 exact ⟨h1 0 _ hu,h1 j _ hv,h2 j⟩
theorem tN.nz (h:tN d e P w0 w g n cap xs i oki c W)(s:Nat){u:Value}(hs:d.sz=s)(hu:c[0]? = some u):W.cell? ⟨g,i.toNat * s,none⟩=some u∧W.frozen? ⟨g,i.toNat * s,none⟩=false:=by
 subst hs
 obtain ⟨h1,h2⟩:=Kd.Gy h.hH h.h0 h.h1
 exact ⟨h1 0 _ hu,h2 0⟩
theorem tN.back (h:tN d e P w0 w g n cap xs i oki c W)(x:α)(hM:d.M W w0.heap.size oki x c):d.R e W w0.heap.size (fun k=>(P k∨w.heap.size≤k)) (.slice (some ⟨g,0,none⟩) n cap) (xs.set i.toNat x):=Kd.rW (Kd.Rt h.hH hM (fun _ hk=>hk))
theorem UY (z:α)(i:Int)(h:Kd.S d e W w0.heap.size (fun k=>(P k∨w.heap.size≤k)) v xs)(hB:Below w0.heap.size w0 W)(hK:Kept w W P)(h0:0≤i)(h1:i<(xs.length:Int)) :
  ∃ g cap oki c,v=.slice (some ⟨g,0,none⟩) xs.length cap∧d.M W w0.heap.size oki (xs.getD i.toNat z) c∧(∀ k,oki k→k≠g)∧tN d e P w0 w g xs.length cap xs i oki c W:=by
 obtain ⟨g,cap,rfl,hb,_,_⟩:=Kd.NN h (by omega)
 obtain ⟨oki,c,_,hM,_,_,ho,hH⟩:=Kd.Ka h z i h0 h1
 exact ⟨g,cap,oki,c,rfl,hM,fun k q=>(ho k q).2,hH,hB,hK,(Kd.rW h).1 g rfl,hb,h0,h1⟩
theorem tN.call (h:tN d e P w0 w g n cap xs i oki c W)(hk:Kept W W2 oki)(hb:Below w0.heap.size w0 W2):tN d e P w0 w g n cap xs i (fun k=>oki k∨W.heap.size≤k) c W2:=by
 have e1:(fun k=>oki k∨(P k∨w.heap.size≤k)∧W.heap.size≤k)=(fun k=>oki k∨W.heap.size≤k):=funext fun k=>propext ⟨fun q=>q.imp id (fun q=>q.2),fun q=>q.imp id (fun q=>⟨.inr (Nat.le_trans h.hK.1 q),q⟩)⟩
 have h2:=Kd.acG h.hH
 rw [e1] at h2
 exact ⟨Kd.arf h2 hk (fun _ _ hn q=>hn (.inl q)),hb,h.hK.P9 hk (fun k q=>h.hH.1 k q),h.hP,h.hb,h.h0,h.h1⟩
theorem tN.R4 (h:tN d e P w0 w g n cap xs i oki c W)(x:α)(hM:d.M W w0.heap.size oki x c):Kd.S d e W w0.heap.size (fun k=>(P k∨w.heap.size≤k)) (.slice (some ⟨g,0,none⟩) n cap) (xs.set i.toNat x):=Kd.Rt h.hH hM (fun _ hk=>hk)
end
section
variable {α : Type} {R : α → List Value → Prop} {size : Nat} {ps qs : List α} {cs ds : List Value}
end
section
variable {α : Type} {d : Kd α} {e : Nat} {w w1 : World} {base : Nat} {ok ok1 : Nat → Prop} {v : Value} {xs : List α} {x : α} {cs : List Value}
end
section
variable {P : Program}
theorem ZJ {ops: Array Oper}{Q: Exit → Act → World → Prop}{oi: Oper}{N: Option Tmp}{a: Act}{w: World}{K: Act → World → Prop}{f: FuncId}{fn: Func}{c: Operand}{as_: Array Operand}{ts: Array TypeId}(hf: P.funcs[f]? = some fn)(hname: (fn.name == "runtime.NumGoroutine") = false)(hb: fn.body.isSome = true)(args: Array Value)
    (hw : Region.wanted oi (yielded ops a.tmps) = true) (hN : oi.dst = N) (hop : oi.op = .call { callee := .value c, args := as_, argTypes := ts }) (hc : a.eval c = .func (.func f) #[] #[]) (hargs : as_.map a.eval = args)
    (h : Calls P f args w fun e w' => ∃ v, e = .returned v ∧ K (a.put N v) w') : if Region.wanted oi (yielded ops a.tmps) = true then Oper.wp P oi a w K Q else K (a.put N undef) w := by
  refine call_ f args hw hN ?_ h
  have he := adO hf hname hb args w
  unfold execOp
  simp [hop, resolve, Deferred.ofValue, invoke, hc, hargs, he]
end
section
variable {P : Program}
end
end Go.Proofs.bB.PrintMore
namespace Go.Proofs
open Go.Shelf
def Tryz.ays:Go.Shelf.Ren:=⟨fun|137=>117|217=>134|266=>153|n=>n,fun|9=>9|5=>5|3=>3|n=>n,fun|n=>n⟩
theorem Tryz.anh:Go.Proofs.Lays.n137 Tryz.prog Tryz.ays:={
 mixed:=by kernel_rfl
 f137:=Tryz.func117.trans (congrArg some (by kernel_rfl))
 f217:=Tryz.func134.trans (congrArg some (by kernel_rfl))
 f266:=Tryz.func153.trans (congrArg some (by kernel_rfl))
 t3:=Tryz.underlying3
 a3:=Tryz.isAgg3
 z3:=Tryz.sizeOf3
 v3:=Tryz.zeroValue3
 t5:=Tryz.underlying5
 a5:=Tryz.isAgg5
 z5:=Tryz.sizeOf5
 v5:=Tryz.zeroValue5
 t9:=Tryz.underlying9
 a9:=Tryz.isAgg9
 z9:=Tryz.sizeOf9
 v9:=Tryz.zeroValue9 }
open Go.RowKit in
theorem Tryz.strings_IndexByte (s:ByteArray)(c:Int)(w:World) :
  Calls Tryz.prog 117 #[.string s,.int .u8 c] w fun e w'=>e=.returned (.int .i64 (Lib.indexByte s.data.toList c.toNat.toUInt8))∧w'=w:=Any.strings_IndexByte Tryz.anh s c w
def Tryz.ayx:Go.Shelf.Ren:=⟨fun|173=>109|246=>132|283=>148|284=>149|285=>150|286=>151|129=>166|317=>165|318=>167|319=>168|320=>169|337=>179|338=>180|n=>n,fun|2=>2|3=>3|9=>9|4=>4|171=>161|0=>0|53=>162|37=>124|5=>5|173=>165|212=>179|51=>180|20=>20|213=>181|46=>172|232=>198|233=>199|n=>n,fun|17=>0|18=>4|19=>5|n=>n⟩
theorem Tryz.anj:Go.Proofs.LaysM.n173 Tryz.prog Tryz.ayx:={
 mixed:=by kernel_rfl
 f129:=Tryz.func166.trans (congrArg some (by kernel_rfl))
 f173:=Tryz.func109.trans (congrArg some (by kernel_rfl))
 f246:=Tryz.func132.trans (congrArg some (by kernel_rfl))
 f283:=Tryz.func148.trans (congrArg some (by kernel_rfl))
 f284:=Tryz.func149.trans (congrArg some (by kernel_rfl))
 f285:=Tryz.func150.trans (congrArg some (by kernel_rfl))
 f286:=Tryz.func151.trans (congrArg some (by kernel_rfl))
 f317:=Tryz.func165.trans (congrArg some (by kernel_rfl))
 f318:=Tryz.func167.trans (congrArg some (by kernel_rfl))
 f319:=Tryz.func168.trans (congrArg some (by kernel_rfl))
 f320:=Tryz.func169.trans (congrArg some (by kernel_rfl))
 f337:=Tryz.func179.trans (congrArg some (by kernel_rfl))
 f338:=Tryz.func180.trans (congrArg some (by kernel_rfl))
 t0:=Tryz.underlying0
 a0:=Tryz.isAgg0
 z0:=Tryz.sizeOf0
 v0:=Tryz.zeroValue0
 t2:=Tryz.underlying2
 a2:=Tryz.isAgg2
 z2:=Tryz.sizeOf2
 v2:=Tryz.zeroValue2
 t3:=Tryz.underlying3
 a3:=Tryz.isAgg3
 z3:=Tryz.sizeOf3
 v3:=Tryz.zeroValue3
 t4:=Tryz.underlying4
 a4:=Tryz.isAgg4
 z4:=Tryz.sizeOf4
 v4:=Tryz.zeroValue4
 t5:=Tryz.underlying5
 a5:=Tryz.isAgg5
 z5:=Tryz.sizeOf5
 v5:=Tryz.zeroValue5
 t9:=Tryz.underlying9
 a9:=Tryz.isAgg9
 z9:=Tryz.sizeOf9
 v9:=Tryz.zeroValue9
 t20:=Tryz.underlying20
 a20:=Tryz.isAgg20
 z20:=Tryz.sizeOf20
 v20:=Tryz.zeroValue20
 t37:=Tryz.underlying124
 a37:=Tryz.isAgg124
 z37:=Tryz.sizeOf124
 v37:=Tryz.zeroValue124
 t46:=Tryz.underlying172
 a46:=Tryz.isAgg172
 z46:=Tryz.sizeOf172
 v46:=Tryz.zeroValue172
 t51:=Tryz.underlying180
 a51:=Tryz.isAgg180
 z51:=Tryz.sizeOf180
 v51:=Tryz.zeroValue180
 t53:=Tryz.underlying162
 a53:=Tryz.isAgg162
 z53:=Tryz.sizeOf162
 v53:=Tryz.zeroValue162
 t171:=Tryz.underlying161
 a171:=Tryz.isAgg161
 z171:=Tryz.sizeOf161
 v171:=Tryz.zeroValue161
 t173:=Tryz.underlying165
 a173:=Tryz.isAgg165
 z173:=Tryz.sizeOf165
 v173:=Tryz.zeroValue165
 t212:=Tryz.underlying179
 a212:=Tryz.isAgg179
 z212:=Tryz.sizeOf179
 v212:=Tryz.zeroValue179
 t213:=Tryz.underlying181
 a213:=Tryz.isAgg181
 z213:=Tryz.sizeOf181
 t232:=Tryz.underlying198
 a232:=Tryz.isAgg198
 z232:=Tryz.sizeOf198
 v232:=Tryz.zeroValue198
 t233:=Tryz.underlying199
 a233:=Tryz.isAgg199
 z233:=Tryz.sizeOf199
 v233:=Tryz.zeroValue199
 g17:=by kernel_rfl
 g18:=by kernel_rfl
 g19:=by kernel_rfl
 i0:=by kernel_rfl
 i2:=by kernel_rfl
 i3:=by kernel_rfl
 i4:=by kernel_rfl
 i5:=by kernel_rfl
 i9:=by kernel_rfl
 i20:=by kernel_rfl
 i37:=by kernel_rfl
 i46:=by kernel_rfl
 i51:=by kernel_rfl
 i53:=by kernel_rfl
 i171:=by kernel_rfl
 i173:=by kernel_rfl
 i212:=by kernel_rfl
 i232:=by kernel_rfl
 i233:=by kernel_rfl
 m17:=by kernel_rfl
 m18:=by kernel_rfl
 m19:=by kernel_rfl }
open Go.RowKit Go.Sort Go.Lib in
theorem Tryz.strconv_FormatInt_10 (n: Int)(h0: -9223372036854775808 ≤ n)(h1: n ≤ 9223372036854775807)(w: World)(htab: Lib.TabIs Tryz.prog w "internal/strconv.uint64pow10" .u64 Lib.pow10Tab) :
    Calls Tryz.prog 109 #[.int .i64 n, .int .i64 10] w fun e w' => e = .returned (.string ⟨(Lib.itoa n).toArray⟩) ∧ ∃ k os, w' = grow (w.drewN k) os := Any.strconv_FormatInt_10 Tryz.anj n h0 h1 w htab
def Tryz.ayu:Go.Shelf.Ren:=⟨fun|174=>120|247=>138|245=>139|287=>156|279=>157|280=>158|281=>159|282=>160|321=>173|322=>174|316=>175|171=>177|205=>176|243=>182|246=>132|283=>148|284=>149|285=>150|286=>151|129=>166|317=>165|318=>167|319=>168|320=>169|337=>179|338=>180|n=>n,fun|9=>9|3=>3|2=>2|75=>144|85=>145|4=>4|167=>169|5=>5|53=>162|175=>170|46=>172|168=>173|37=>124|0=>0|210=>187|21=>21|127=>193|145=>196|143=>194|171=>161|173=>165|212=>179|51=>180|20=>20|213=>181|232=>198|233=>199|80=>200|n=>n,fun|15=>2|16=>3|17=>0|18=>4|19=>5|n=>n⟩
theorem Tryz.LH:Go.Proofs.LaysC.n174 Tryz.prog Tryz.ayu:={
 mixed:=by kernel_rfl
 f129:=Tryz.func166.trans (congrArg some (by kernel_rfl))
 f171:=Tryz.func177.trans (congrArg some (by kernel_rfl))
 f174:=Tryz.func120.trans (congrArg some (by kernel_rfl))
 f205:=Tryz.func176.trans (congrArg some (by kernel_rfl))
 f243:=Tryz.func182.trans (congrArg some (by kernel_rfl))
 f245:=Tryz.func139.trans (congrArg some (by kernel_rfl))
 f246:=Tryz.func132.trans (congrArg some (by kernel_rfl))
 f247:=Tryz.func138.trans (congrArg some (by kernel_rfl))
 f279:=Tryz.func157.trans (congrArg some (by kernel_rfl))
 f280:=Tryz.func158.trans (congrArg some (by kernel_rfl))
 f281:=Tryz.func159.trans (congrArg some (by kernel_rfl))
 f282:=Tryz.func160.trans (congrArg some (by kernel_rfl))
 f283:=Tryz.func148.trans (congrArg some (by kernel_rfl))
 f284:=Tryz.func149.trans (congrArg some (by kernel_rfl))
 f285:=Tryz.func150.trans (congrArg some (by kernel_rfl))
 f286:=Tryz.func151.trans (congrArg some (by kernel_rfl))
 f287:=Tryz.func156.trans (congrArg some (by kernel_rfl))
 f316:=Tryz.func175.trans (congrArg some (by kernel_rfl))
 f317:=Tryz.func165.trans (congrArg some (by kernel_rfl))
 f318:=Tryz.func167.trans (congrArg some (by kernel_rfl))
 f319:=Tryz.func168.trans (congrArg some (by kernel_rfl))
 f320:=Tryz.func169.trans (congrArg some (by kernel_rfl))
 f321:=Tryz.func173.trans (congrArg some (by kernel_rfl))
 f322:=Tryz.func174.trans (congrArg some (by kernel_rfl))
 f337:=Tryz.func179.trans (congrArg some (by kernel_rfl))
 f338:=Tryz.func180.trans (congrArg some (by kernel_rfl))
 t0:=Tryz.underlying0
 a0:=Tryz.isAgg0
 z0:=Tryz.sizeOf0
 v0:=Tryz.zeroValue0
 t2:=Tryz.underlying2
 a2:=Tryz.isAgg2
 z2:=Tryz.sizeOf2
 v2:=Tryz.zeroValue2
 t3:=Tryz.underlying3
 a3:=Tryz.isAgg3
 z3:=Tryz.sizeOf3
 v3:=Tryz.zeroValue3
 t4:=Tryz.underlying4
 a4:=Tryz.isAgg4
 z4:=Tryz.sizeOf4
 v4:=Tryz.zeroValue4
 t5:=Tryz.underlying5
 a5:=Tryz.isAgg5
 z5:=Tryz.sizeOf5
 v5:=Tryz.zeroValue5
 t9:=Tryz.underlying9
 a9:=Tryz.isAgg9
 z9:=Tryz.sizeOf9
 v9:=Tryz.zeroValue9
 t20:=Tryz.underlying20
 a20:=Tryz.isAgg20
 z20:=Tryz.sizeOf20
 v20:=Tryz.zeroValue20
 t21:=Tryz.underlying21
 a21:=Tryz.isAgg21
 z21:=Tryz.sizeOf21
 v21:=Tryz.zeroValue21
 t37:=Tryz.underlying124
 a37:=Tryz.isAgg124
 z37:=Tryz.sizeOf124
 v37:=Tryz.zeroValue124
 t46:=Tryz.underlying172
 a46:=Tryz.isAgg172
 z46:=Tryz.sizeOf172
 v46:=Tryz.zeroValue172
 t51:=Tryz.underlying180
 a51:=Tryz.isAgg180
 z51:=Tryz.sizeOf180
 v51:=Tryz.zeroValue180
 t53:=Tryz.underlying162
 a53:=Tryz.isAgg162
 z53:=Tryz.sizeOf162
 v53:=Tryz.zeroValue162
 t75:=Tryz.underlying144
 a75:=Tryz.isAgg144
 z75:=Tryz.sizeOf144
 v75:=Tryz.zeroValue144
 t85:=Tryz.underlying145
 a85:=Tryz.isAgg145
 z85:=Tryz.sizeOf145
 v85:=Tryz.zeroValue145
 t127:=Tryz.underlying193
 a127:=Tryz.isAgg193
 z127:=Tryz.sizeOf193
 v127:=Tryz.zeroValue193
 t143:=Tryz.underlying194
 a143:=Tryz.isAgg194
 z143:=Tryz.sizeOf194
 v143:=Tryz.zeroValue194
 t145:=Tryz.underlying196
 a145:=Tryz.isAgg196
 z145:=Tryz.sizeOf196
 v145:=Tryz.zeroValue196
 t167:=Tryz.underlying169
 a167:=Tryz.isAgg169
 z167:=Tryz.sizeOf169
 v167:=Tryz.zeroValue169
 t168:=Tryz.underlying173
 a168:=Tryz.isAgg173
 z168:=Tryz.sizeOf173
 v168:=Tryz.zeroValue173
 t171:=Tryz.underlying161
 a171:=Tryz.isAgg161
 z171:=Tryz.sizeOf161
 v171:=Tryz.zeroValue161
 t173:=Tryz.underlying165
 a173:=Tryz.isAgg165
 z173:=Tryz.sizeOf165
 v173:=Tryz.zeroValue165
 t175:=Tryz.underlying170
 a175:=Tryz.isAgg170
 z175:=Tryz.sizeOf170
 v175:=Tryz.zeroValue170
 t210:=Tryz.underlying187
 a210:=Tryz.isAgg187
 z210:=Tryz.sizeOf187
 v210:=Tryz.zeroValue187
 t212:=Tryz.underlying179
 a212:=Tryz.isAgg179
 z212:=Tryz.sizeOf179
 v212:=Tryz.zeroValue179
 t213:=Tryz.underlying181
 a213:=Tryz.isAgg181
 z213:=Tryz.sizeOf181
 t232:=Tryz.underlying198
 a232:=Tryz.isAgg198
 z232:=Tryz.sizeOf198
 v232:=Tryz.zeroValue198
 t233:=Tryz.underlying199
 a233:=Tryz.isAgg199
 z233:=Tryz.sizeOf199
 v233:=Tryz.zeroValue199
 g15:=by kernel_rfl
 g16:=by kernel_rfl
 g17:=by kernel_rfl
 g18:=by kernel_rfl
 g19:=by kernel_rfl
 t80:=Tryz.underlying200
 a80:=Tryz.isAgg200
 z80:=Tryz.sizeOf200
 v80:=Tryz.zeroValue200
 i0:=by kernel_rfl
 i2:=by kernel_rfl
 i3:=by kernel_rfl
 i4:=by kernel_rfl
 i5:=by kernel_rfl
 i9:=by kernel_rfl
 i20:=by kernel_rfl
 i21:=by kernel_rfl
 i37:=by kernel_rfl
 i46:=by kernel_rfl
 i51:=by kernel_rfl
 i53:=by kernel_rfl
 i75:=by kernel_rfl
 i80:=by kernel_rfl
 i85:=by kernel_rfl
 i127:=by kernel_rfl
 i143:=by kernel_rfl
 i145:=by kernel_rfl
 i167:=by kernel_rfl
 i168:=by kernel_rfl
 i171:=by kernel_rfl
 i173:=by kernel_rfl
 i175:=by kernel_rfl
 i210:=by kernel_rfl
 i212:=by kernel_rfl
 i232:=by kernel_rfl
 i233:=by kernel_rfl
 m15:=by kernel_rfl
 m16:=by kernel_rfl
 m17:=by kernel_rfl
 m18:=by kernel_rfl
 m19:=by kernel_rfl
 c0:=by kernel_rfl
 c2:=by kernel_rfl
 c3:=by kernel_rfl
 c4:=by kernel_rfl
 c5:=by kernel_rfl
 c9:=by kernel_rfl
 c20:=by kernel_rfl
 c21:=by kernel_rfl
 c37:=by kernel_rfl
 c46:=by kernel_rfl
 c51:=by kernel_rfl
 c53:=by kernel_rfl
 c75:=by kernel_rfl
 c80:=by kernel_rfl
 c85:=by kernel_rfl
 c127:=by kernel_rfl
 c143:=by kernel_rfl
 c145:=by kernel_rfl
 c167:=by kernel_rfl
 c168:=by kernel_rfl
 c171:=by kernel_rfl
 c173:=by kernel_rfl
 c175:=by kernel_rfl
 c210:=by kernel_rfl
 c212:=by kernel_rfl
 c213:=by kernel_rfl
 c232:=by kernel_rfl
 c233:=by kernel_rfl }
open Go.RowKit in
theorem Tryz.strconv_ParseInt_10_at64_ok (s:ByteArray)(hmax:s.size≤9223372036854775806)(v:Int)(h:Lib.parseIntB 64 s.data.toList=.ok v)(w:World) :
  Calls Tryz.prog 120 #[.string s,.int .i64 10,.int .i64 64] w fun e w'=>e=.returned (.tuple #[.int .i64 v,.nilIface])∧(w'=w∨∃ t,w'=Lib.bytesWorld w 5 t):=Any.strconv_ParseInt_10_at64_ok Tryz.LH s hmax v h w
open Go.RowKit in
theorem Tryz.strconv_ParseInt_10_at64_syntax (s:ByteArray)(hlim:s.size≤281474976710656)(h:Lib.parseIntB 64 s.data.toList=.«syntax»)(ev:Value)(w:World)(hv:w.cell? ⟨2,0,none⟩=some ev)(hev:ev=.nilIface∨∃ te pe,ev=.iface te pe) :
  Calls Tryz.prog 120 #[.string s,.int .i64 10,.int .i64 64] w fun e w'=>∃ N,e=.returned (.tuple #[.int .i64 (0),.iface 173 (.pointer (some ⟨N,0,none⟩))])∧w.heap.size≤N∧w'.heap[N]? = some (.cells #[.string ⟨#[80,97,114,115,101,73,110,116]⟩,.string s,ev] 187 (0,0))∧Below w.heap.size w w':=Any.strconv_ParseInt_10_at64_syntax Tryz.LH s hlim h ev w hv hev
open Go.RowKit in
theorem Tryz.strconv_ParseInt_10_at64_range (s:ByteArray)(hlim:s.size≤281474976710656)(h:Lib.parseIntB 64 s.data.toList=.range)(ev:Value)(w:World)(hv:w.cell? ⟨3,0,none⟩=some ev)(hev:ev=.nilIface∨∃ te pe,ev=.iface te pe) :
  Calls Tryz.prog 120 #[.string s,.int .i64 10,.int .i64 64] w fun e w'=>∃ N,e=.returned (.tuple #[.int .i64 (Lib.intSat 64 s.data.toList),.iface 173 (.pointer (some ⟨N,0,none⟩))])∧w.heap.size≤N∧w'.heap[N]? = some (.cells #[.string ⟨#[80,97,114,115,101,73,110,116]⟩,.string s,ev] 187 (0,0))∧Below w.heap.size w w':=Any.strconv_ParseInt_10_at64_range Tryz.LH s hlim h ev w hv hev
def Tryz.ayt:Go.Shelf.Ren:=⟨fun|145=>116|220=>133|219=>152|217=>134|225=>170|224=>171|267=>172|266=>153|314=>181|n=>n,fun|9=>9|4=>4|59=>138|3=>3|5=>5|46=>172|146=>191|51=>180|n=>n,fun|1=>1|n=>n⟩
theorem Tryz.ani:Go.Proofs.Lays.n145 Tryz.prog Tryz.ayt:={
 mixed:=by kernel_rfl
 f145:=Tryz.func116.trans (congrArg some (by kernel_rfl))
 f217:=Tryz.func134.trans (congrArg some (by kernel_rfl))
 f219:=Tryz.func152.trans (congrArg some (by kernel_rfl))
 f220:=Tryz.func133.trans (congrArg some (by kernel_rfl))
 f224:=Tryz.func171.trans (congrArg some (by kernel_rfl))
 f225:=Tryz.func170.trans (congrArg some (by kernel_rfl))
 f266:=Tryz.func153.trans (congrArg some (by kernel_rfl))
 f267:=Tryz.func172.trans (congrArg some (by kernel_rfl))
 f314:=Tryz.func181.trans (congrArg some (by kernel_rfl))
 t3:=Tryz.underlying3
 a3:=Tryz.isAgg3
 z3:=Tryz.sizeOf3
 v3:=Tryz.zeroValue3
 t4:=Tryz.underlying4
 a4:=Tryz.isAgg4
 z4:=Tryz.sizeOf4
 v4:=Tryz.zeroValue4
 t5:=Tryz.underlying5
 a5:=Tryz.isAgg5
 z5:=Tryz.sizeOf5
 v5:=Tryz.zeroValue5
 t9:=Tryz.underlying9
 a9:=Tryz.isAgg9
 z9:=Tryz.sizeOf9
 v9:=Tryz.zeroValue9
 t46:=Tryz.underlying172
 a46:=Tryz.isAgg172
 z46:=Tryz.sizeOf172
 v46:=Tryz.zeroValue172
 t51:=Tryz.underlying180
 a51:=Tryz.isAgg180
 z51:=Tryz.sizeOf180
 v51:=Tryz.zeroValue180
 t59:=Tryz.underlying138
 a59:=Tryz.isAgg138
 z59:=Tryz.sizeOf138
 v59:=Tryz.zeroValue138
 t146:=Tryz.underlying191
 a146:=Tryz.isAgg191
 z146:=Tryz.sizeOf191
 v146:=Tryz.zeroValue191
 g1:=by kernel_rfl }
open Go.RowKit Go.Lib in
theorem Tryz.strings_Cut (s sep:ByteArray)(m:Int)(w:World)(hs:s.size<4294967281)(hm:w.cell? ⟨1,0,none⟩=some (.int .i64 m)) :
  Calls Tryz.prog 116 #[.string s,.string sep] w fun e w'=>e=.returned (.tuple #[.string ⟨(Lib.cut s.data.toList sep.data.toList).1.toArray⟩,.string ⟨(Lib.cut s.data.toList sep.data.toList).2.1.toArray⟩,.bool (Lib.cut s.data.toList sep.data.toList).2.2])∧∃ n,w'=w.drewN n:=Any.strings_Cut Tryz.ani s sep m w hs hm
def Tryz.ayw:Go.Shelf.Ren:=⟨fun|145=>116|220=>133|219=>152|217=>134|225=>170|224=>171|267=>172|266=>153|314=>181|n=>n,fun|9=>9|4=>4|59=>138|3=>3|5=>5|46=>172|146=>191|51=>180|n=>n,fun|1=>1|n=>n⟩
theorem Tryz.ayv:Go.Proofs.LaysM.n145 Tryz.prog Tryz.ayw:={
 mixed:=by kernel_rfl
 f145:=Tryz.func116.trans (congrArg some (by kernel_rfl))
 f217:=Tryz.func134.trans (congrArg some (by kernel_rfl))
 f219:=Tryz.func152.trans (congrArg some (by kernel_rfl))
 f220:=Tryz.func133.trans (congrArg some (by kernel_rfl))
 f224:=Tryz.func171.trans (congrArg some (by kernel_rfl))
 f225:=Tryz.func170.trans (congrArg some (by kernel_rfl))
 f266:=Tryz.func153.trans (congrArg some (by kernel_rfl))
 f267:=Tryz.func172.trans (congrArg some (by kernel_rfl))
 f314:=Tryz.func181.trans (congrArg some (by kernel_rfl))
 t3:=Tryz.underlying3
 a3:=Tryz.isAgg3
 z3:=Tryz.sizeOf3
 v3:=Tryz.zeroValue3
 t4:=Tryz.underlying4
 a4:=Tryz.isAgg4
 z4:=Tryz.sizeOf4
 v4:=Tryz.zeroValue4
 t5:=Tryz.underlying5
 a5:=Tryz.isAgg5
 z5:=Tryz.sizeOf5
 v5:=Tryz.zeroValue5
 t9:=Tryz.underlying9
 a9:=Tryz.isAgg9
 z9:=Tryz.sizeOf9
 v9:=Tryz.zeroValue9
 t46:=Tryz.underlying172
 a46:=Tryz.isAgg172
 z46:=Tryz.sizeOf172
 v46:=Tryz.zeroValue172
 t51:=Tryz.underlying180
 a51:=Tryz.isAgg180
 z51:=Tryz.sizeOf180
 v51:=Tryz.zeroValue180
 t59:=Tryz.underlying138
 a59:=Tryz.isAgg138
 z59:=Tryz.sizeOf138
 v59:=Tryz.zeroValue138
 t146:=Tryz.underlying191
 a146:=Tryz.isAgg191
 z146:=Tryz.sizeOf191
 v146:=Tryz.zeroValue191
 g1:=by kernel_rfl
 i3:=by kernel_rfl
 i4:=by kernel_rfl
 i5:=by kernel_rfl
 i9:=by kernel_rfl
 i46:=by kernel_rfl
 i51:=by kernel_rfl
 i59:=by kernel_rfl
 i146:=by kernel_rfl
 m1:=by kernel_rfl
 s1_3:=fun w h=>Go.Proofs.cell_of_shapedOpen_int (zero:=#[.int .i64 0]) (t:=3) h (of_decide_eq_true (by kernel_rfl)) (by kernel_rfl) rfl (by kernel_rfl) (by kernel_rfl) Tryz.underlying3 }
end Go.Proofs
namespace Go.Proofs.YtapilmimgiaglaaGreatDoor.Bs
open Go.Op
theorem afU:∀ a b:List UInt8,(!(bytesLess a b || a == b))=bytesLess b a
 | [],[]=>rfl
 | [],_ :: _=>rfl
 | _ :: _,[]=>rfl
 | x :: a,y :: b=>by
  have ih:=afU a b
  by_cases h1:x<y
  ·have h2:¬ y<x:=fun h=>by have:=UInt8.lt_iff_toNat_lt.1 h;have:=UInt8.lt_iff_toNat_lt.1 h1;omega
   have h3:¬ x=y:=fun h=>by subst h;have:=UInt8.lt_iff_toNat_lt.1 h1;omega
   have h4:¬ y=x:=fun h=>h3 h.symm
   simp [bytesLess,h1,h2,h4]
  ·by_cases h2:y<x
   ·have h3:¬ x=y:=fun h=>by subst h;have:=UInt8.lt_iff_toNat_lt.1 h2;omega
    simp [bytesLess,h1,h2,h3]
   ·have h3:x=y:=UInt8.toNat_inj.1 (by
     have e1:=mt UInt8.lt_iff_toNat_lt.2 h1
     have e2:=mt UInt8.lt_iff_toNat_lt.2 h2
     omega)
    subst h3
    have e1:bytesLess (x :: b) (x :: a)=bytesLess b a:=by simp [bytesLess]
    have e2:bytesLess (x :: a) (x :: b)=bytesLess a b:=by simp [bytesLess]
    have e3:(x :: a == x :: b)=(a == b):=by simp
    rw [e1,e2,e3]
    exact ih
@[go_sem] theorem binOp_gtr (t:TypeId) (a b:ByteArray):binOp .gtr t (.string a) (.string b)=pure (.bool (bytesLess b.toList a.toList)):=by
 rw [← afU]
 simp [binOp,Op.stringOp]
@[go_sem] theorem binOp_leq (t:TypeId) (a b:ByteArray):binOp .leq t (.string a) (.string b)=pure (.bool !(bytesLess b.toList a.toList)):=by
 rw [← afU]
 simp [binOp,Op.stringOp]
@[go_sem] theorem binOp_geq (t:TypeId) (a b:ByteArray):binOp .geq t (.string a) (.string b)=pure (.bool !(bytesLess a.toList b.toList)):=by
 simp [binOp,Op.stringOp]
end Go.Proofs.YtapilmimgiaglaaGreatDoor.Bs
