/- The tied card: for every input that can be read as data, the library's listed variables standing as the program's text lays them, laws.FnTables returns true, and each argument reads behind the call as it read before. Conditions: none but the row's own. -/
import Derived.Test.YtjbdljhjplidmaaDoorRows
import Derived.LaidMore
import Derived.Stop.LaidErr
import Derived.Stop.Joined
import Derived.Lib.LaidU8
import Derived.SevenTiedAt
import Derived.Test.YtjbdljhjplidmaaDoorTie
import Derived.Test.YtjbdljhjplidmaaDoorCards
import Derived.WalkKit
import Derived.ProofKit
import Derived.OpenShut
import Derived.ShutString
import Derived.ChangeOld
import Derived.Below
import Derived.SizedLaws
import Derived.Carry
import Derived.Test.YtjbdljhjplidmaaDoorKFnTables0
import Derived.Test.YtjbdljhjplidmaaDoorKFnTables1
import Derived.Test.YtjbdljhjplidmaaDoorKFnTables2
import Derived.Test.YtjbdljhjplidmaaDoorKFnTables3
import Derived.Test.YtjbdljhjplidmaaDoorKFnTables4
import Derived.Test.YtjbdljhjplidmaaDoorKFnTables5
import Derived.Test.YtjbdljhjplidmaaDoorKFnTables6
import Derived.Test.YtjbdljhjplidmaaDoorKFnTables7
import Derived.Test.YtjbdljhjplidmaaDoorKFnTables8
import Derived.Test.YtjbdljhjplidmaaDoorKFnTables9
import Derived.Test.YtjbdljhjplidmaaDoorKFnTables10
import Derived.Test.YtjbdljhjplidmaaDoorKFnTables11
import Derived.Test.YtjbdljhjplidmaaDoorKFnTables12
import Derived.Test.YtjbdljhjplidmaaDoorKFnTables13
import Derived.Test.YtjbdljhjplidmaaDoorKFnTables14
import Derived.Test.YtjbdljhjplidmaaDoorKFnTables15
import Derived.Test.YtjbdljhjplidmaaDoorKFnTables16
import Derived.Test.YtjbdljhjplidmaaDoorKFnTables17
import Derived.Test.YtjbdljhjplidmaaDoorKFnTables18
import Derived.Test.YtjbdljhjplidmaaDoorKFnTables19
import Derived.Test.YtjbdljhjplidmaaDoorKFnTables20
namespace Go.Proofs.YtjbdljhjplidmaaDoor.fnTables
open Go.ChangeShapes Go.WideShapes Go.ChangeAt Go.RowKit Go.Proofs.YtjbdljhjplidmaaDoor.QF Go.Proofs.YtjbdljhjplidmaaDoorW.PrintWords
open Go.ChangeMaps (open_string shut_string)
set_option linter.unusedVariables false
theorem own : ownKnob Tryd.prog.godebug = none := by kernel_rfl
theorem laidOut : laidOutB Tryd.prog = true := by kernel_rfl
/-- What the row lists. -/
def laidL {H : Type} : List (String × DataW H) := [("math/bits.deBruijn32tab", Rows.laid_math_bits_deBruijn32tab), ("math/bits.deBruijn64tab", Rows.laid_math_bits_deBruijn64tab), ("internal/strconv.uint64pow10", Rows.laid_internal_strconv_uint64pow10), ("strconv.ErrRange", Rows.laid_strconv_ErrRange), ("strconv.ErrSyntax", Rows.laid_strconv_ErrSyntax)]
theorem door_met (os : Os) (args : Array Value) : laidMetH Tryd.prog (laidL (H := Unit)) ((World.doorLaid Tryd.prog 400 os).forCall (fun _ _ => 0) ⟨#[], args, []⟩).memory :=
  laidMetH_of_parts3 (fuel := 8) (laidMet_of_run' 8 (by kernel_rfl) (by kernel_rfl)) (by kernel_rfl) (by kernel_rfl)
theorem star : "*" ++ "errors.errorString" = "*errors.errorString" := by decide
theorem rowE (u : TypeId) (h : Tryd.prog.typeName? 3 u = some "*errors.errorString") : u = 156 :=
  typeName_ptr_named (nm := "errors.errorString") (by rw [star]; kernel_rfl) (by kernel_rfl) (by decide) u (by rw [star]; exact h)
theorem tbP_of {w : World} (h : laidMetH Tryd.prog (laidL (H := Unit)) w) : TbP w := by
  rw [MakeChecks.laidMetH_plain _ _ _ (by kernel_rfl)] at h
  unfold laidL at h
  have g0 : Tryd.prog.globalNamed "strconv.ErrSyntax" = some 2 := by kernel_rfl
  obtain ⟨a0, s0, v0, -, -, -⟩ := laid_sentinel h.tail.tail.tail.tail g0 (show (Tryd.prog.globals[2]?).map (·.type) = some 85 by kernel_rfl) Tryd.underlying85 rowE Tryd.underlying156 Tryd.underlying158 rfl rfl Tryd.underlying9 (by kernel_rfl) (by kernel_rfl)
  have g1 : Tryd.prog.globalNamed "strconv.ErrRange" = some 3 := by kernel_rfl
  obtain ⟨a1, s1, v1, -, -, -⟩ := laid_sentinel h.tail.tail.tail g1 (show (Tryd.prog.globals[3]?).map (·.type) = some 85 by kernel_rfl) Tryd.underlying85 rowE Tryd.underlying156 Tryd.underlying158 rfl rfl Tryd.underlying9 (by kernel_rfl) (by kernel_rfl)
  exact ⟨⟨_, by have q0 := World.var?_cell g0 v0 0; simpa using q0, .inr ⟨_, _, rfl⟩⟩, _, by have q1 := World.var?_cell g1 v1 0; simpa using q1, .inr ⟨_, _, rfl⟩⟩
set_option maxRecDepth 100000 in
theorem wrap (os : Os) (started : os.Started) (H : Type) (enc : TypeId × Value → H)
    (hC : ∀ (W : World) (base : Nat) (args : Array Value) (ds gs : List (DataW H)) (before : List MemPlace), (∀ (j : Nat) t v, Tryd.f6.params[j]? = some t → args[j]? = some v → Value.okWide Tryd.prog W .any base t v) →
      DataW.Whole enc Tryd.prog Tryd.f6.params.toList Rows.fnTablesSpec.vars false W args.toList ds gs before → W.ShapedOpen Tryd.prog → laidMetH Tryd.prog (laidL (H := Unit)) W →
      Calls Tryd.prog 6 args W fun e W' => ∃ v, e = .returned v ∧ Rows.fnTablesSpec.post enc Tryd.prog Tryd.f6 false true false false W args v W') :
    ReturnsInHanded {} Tryd.checked os 6 .any (fun w args => (Rows.fnTablesSpec.pre enc Tryd.prog Tryd.f6 Rows.fnTablesRow.domain false w args ∧ laidMetH Tryd.prog (laidL (H := Unit)) w) ∧ sizedMet enc Tryd.prog Tryd.f6 (OpenSpec.ofChange Rows.fnTablesSpec) false w args) (Rows.fnTablesSpec.post enc Tryd.prog Tryd.f6 false true false false) := by
  refine returnsInHanded_of_calls own started (by kernel_rfl) (ChangeSpec.witness_shaped (enc := enc) (C := Tryd.checked) (os := os) (X := fun w _ => laidMetH Tryd.prog (laidL (H := Unit)) w) false (World.doorLaid Tryd.prog 400 os) #[.slice none 0 0] 8 rfl (World.shaped_of_RefB (by kernel_rfl) (by kernel_rfl)) (by kernel_rfl) (by kernel_rfl) (by kernel_rfl) (door_met os _)) ?_
  intro w tape i _ hsh _ hok hpre _
  obtain ⟨_, _, _, g, hg, _, _, _, _, hval⟩ := hok
  obtain rfl : g = Tryd.f6 := Option.some.inj (hg.symm.trans Tryd.func6)
  obtain ⟨⟨⟨ds, gs, before, hW, _⟩, hL⟩, _⟩ := hpre
  have hL' : laidMetH Tryd.prog (laidL (H := Unit)) (w.forCall tape i) := laidMetH.of_heap (by rfl) hL
  refine (hC (w.forCall tape i) w.heap.size i.args ds gs before hval (DataW.Whole.of_heap (w' := w.forCall tape i) (by rfl) hW) hsh hL').mono fun e W' ⟨v, he, hp⟩ => ?_
  subst he
  exact ChangeSpec.post_blind hp
set_option maxRecDepth 100000 in
theorem lifted (os : Os) (started : os.Started) (H : Type) (enc : TypeId × Value → H) :
    ReturnsInHanded {} Tryd.checked os 6 .any (fun w args => (Rows.fnTablesSpec.pre enc Tryd.prog Tryd.f6 Rows.fnTablesRow.domain false w args ∧ laidMetH Tryd.prog (laidL (H := Unit)) w) ∧ sizedMet enc Tryd.prog Tryd.f6 (OpenSpec.ofChange Rows.fnTablesSpec) false w args) (Rows.fnTablesSpec.post enc Tryd.prog Tryd.f6 false true false false) := by
  refine wrap os started H enc ?_
  intro W base args ds gs before hval0 hW hsh hL
  have hval : ∀ (j : Nat) t v, Tryd.f6.params[j]? = some t → args[j]? = some v → Value.okWide Tryd.prog W .any base t v := hval0
  have hW' := hW
  obtain ⟨p, q, hA0, hV, rfl, hfz, hnd⟩ := hW
  have hA : DataW.TrodAll enc Tryd.prog W 0 (fun _ => true) true Tryd.f6.params.toList args.toList ds p := hA0
  rw [Tryd.params6] at hA hval
  obtain ⟨v0, vs0, d0, ds0, p0, q0, hargs, rfl, rfl, h0, r0⟩ := trodAll_cons hA
  obtain ⟨rfl, rfl, rfl⟩ := trodAll_nil r0
  obtain rfl : args = #[v0] := by cases args; simp_all
  obtain ⟨rfl, rfl⟩ := trodVars_none hV
  obtain ⟨A0, n0, c0, rfl⟩ := okWide_slice Tryd.underlying50 (hval 0 50 v0 rfl rfl)
  have k0 := h0
  have lt0 : ∀ x ∈ p0, x.block < W.heap.size := by obtain ⟨m, hm⟩ := k0; exact DataW.trod_lt m _ _ _ hm
  obtain ⟨m0, hf0⟩ := h0
  obtain ⟨l0, ⟨A0', c0', hcs0, hc0, hr0⟩, w0⟩ := ((Rd.rd_slice Tryd.underlying50 (by kernel_rfl) (Rd.rd_int (Tryd.underlying5))) : Rd.Rd Tryd.prog 50 (Kd.slice 5 (Kd.int .u8)) (Rd.WfRow (Rd.WfInt .u8))) _ _ _ _ _ _ _ _ _ hf0
  simp only [Value.cells, List.cons.injEq, Value.slice.injEq, and_true] at hcs0
  obtain ⟨rfl, rfl, rfl⟩ := hcs0
  clear hA0 hval0
  obtain ⟨k, h⟩ := Pure.FnTables l0 w0
  refine (laws_FnTables.calls k _ _ l0 true W hr0 hc0 (Tryd.laysM145.s1_3 W hsh) (tbP_of hL) h).mono fun e W' ⟨he, hd⟩ => ?_
  have bel : Below W.heap.size W W' := hd
  subst he
  exact ⟨_, rfl, _, _, _, [], _, [], hW', trodAll_mk1 (shut_bool Tryd.underlying4 _), (trodAll_cons_mk (Below.trod laidOut (by kernel_rfl) (of_decide_eq_true (by kernel_rfl)) k0 bel lt0) trodAll_mk0), rfl, bel.frame _, fun h => by cases h⟩
theorem over : Rows.fnTablesRow.holds Tryd.pinned (OpenSpec.ofChange Rows.fnTablesSpec) :=
  OpenClaim.holds_of_wide 6 Tryd.f6 rfl rfl rfl rfl rfl rfl rfl ⟨rfl, rfl, rfl, rfl, rfl⟩ rfl rfl rfl rfl rfl (by kernel_rfl) Tryd.func6 (by kernel_rfl)
    (of_decide_eq_true (by kernel_rfl)) (by unfold Func.isWrapper; first | (rw [if_pos (by decide +kernel)]; kernel_rfl) | (rw [if_neg (by decide +kernel)]; exact ⟨rfl, rfl⟩))
    (fun os started H enc _ => lifted os started H enc)
theorem proved : Rows.FnTablesCardSaid :=
  Claim7.holds_tied_plain_at .later [] [.data, .data, .data, .sentinel, .sentinel] true (true, "1bb6649ead601eb9f3af81f4ac6f8546ee9116573d20588cf08fd42325c7c647") true
    over (fun _ h => by cases h) (by kernel_rfl) (fun _ h => by cases h) fnTables_row_tie rfl ⟨rfl, rfl⟩ (by kernel_rfl) rfl
    (fun f fn hf hfn => by
      obtain rfl : f = 6 := Option.some.inj ((show Tryd.prog.funcNamed "loop.example/g00096/laws.FnTables" = some 6 by kernel_rfl).symm.trans hf) |>.symm
      obtain rfl : fn = Tryd.f6 := (Option.some.inj (Tryd.func6.symm.trans hfn)).symm
      exact ⟨by kernel_rfl, fun j t ht => by
        rw [Tryd.params6] at ht
        have hm : t ∈ [50] := by simpa using Array.mem_of_getElem? ht
        have hall : ([50].all fun u => !Tryd.prog.wantsStandIn u) = true := by kernel_rfl
        exact (show Tryd.prog.wantsStandIn t = false by simpa using List.all_eq_true.1 hall t hm)⟩)
    (by kernel_rfl)
#print axioms proved
end Go.Proofs.YtjbdljhjplidmaaDoor.fnTables
namespace Go.Proofs.YtjbdljhjplidmaaDoor
/-- The row, under a short name, for the claim. -/
theorem fnTables_holds : Rows.FnTablesCardSaid := fnTables.proved
end Go.Proofs.YtjbdljhjplidmaaDoor
