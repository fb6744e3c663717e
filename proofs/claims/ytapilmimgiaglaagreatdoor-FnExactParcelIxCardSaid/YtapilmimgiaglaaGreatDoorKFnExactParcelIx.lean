/- The tied card: for every input that can be read as data, the library's listed variables standing as the program's text lays them, laws.FnExactParcelIx returns true, and each argument reads behind the call as it read before. Conditions: none but the row's own. -/
import Derived.Test.YtapilmimgiaglaaGreatDoorRows
import Derived.LaidMore
import Derived.Stop.LaidErr
import Derived.Stop.Joined
import Derived.Lib.LaidU8
import Derived.SevenTiedAt
import Derived.Test.YtapilmimgiaglaaGreatDoorTie
import Derived.Test.YtapilmimgiaglaaGreatDoorCards
import Derived.WalkKit
import Derived.ProofKit
import Derived.OpenShut
import Derived.ShutString
import Derived.ChangeOld
import Derived.Below
import Derived.SizedLaws
import Derived.Carry
import Derived.Test.YtapilmimgiaglaaGreatDoorKFnExactParcelIx29
namespace Go.Proofs.YtapilmimgiaglaaGreatDoor.fnExactParcelIx
open Go.ChangeShapes Go.WideShapes Go.ChangeAt Go.RowKit Go.Proofs.YtapilmimgiaglaaGreatDoor.QX Go.Proofs.bB.eH
open Go.ChangeMaps (open_string shut_string)
set_option linter.unusedVariables false
theorem own : ownKnob Tryz.prog.godebug = none := by kernel_rfl
theorem laidOut : laidOutB Tryz.prog = true := by kernel_rfl
/-- What the row lists. -/
def DV {H : Type} : List (String × DataW H) := [("math/bits.deBruijn32tab", Rows.laid_math_bits_deBruijn32tab), ("math/bits.deBruijn64tab", Rows.laid_math_bits_deBruijn64tab), ("internal/strconv.uint64pow10", Rows.laid_internal_strconv_uint64pow10), ("strconv.ErrRange", Rows.laid_strconv_ErrRange), ("strconv.ErrSyntax", Rows.laid_strconv_ErrSyntax)]
theorem auH (os : Os) (args : Array Value) : laidMetH Tryz.prog (DV (H := Unit)) ((World.doorLaid Tryz.prog 400 os).forCall (fun _ _ => 0) ⟨#[], args, []⟩).memory :=
  laidMetH_of_parts3 (fuel := 8) (laidMet_of_run' 8 (by kernel_rfl) (by kernel_rfl)) (by kernel_rfl) (by kernel_rfl)
theorem aCj {w : World} (h : laidMetH Tryz.prog (DV (H := Unit)) w) : uz w := by
  rw [MakeChecks.laidMetH_plain _ _ _ (by kernel_rfl)] at h
  obtain ⟨g, t, cs, fuel, p, hg, ht, hv, hd⟩ := Lib.laidMet.reads h (n := "internal/strconv.uint64pow10") (d := Rows.laid_internal_strconv_uint64pow10) (by simp [DV])
  obtain rfl := Option.some.inj ((show Tryz.prog.globalNamed "internal/strconv.uint64pow10" = some 0 by kernel_rfl).symm.trans hg)
  obtain rfl := Option.some.inj ((show (Tryz.prog.globals[0]?).map (·.type) = some 179 by kernel_rfl).symm.trans ht)
  have hd' : DataW.trod (fun _ => ()) Tryz.prog w 0 (fun _ => true) false fuel 179 cs.toList = some (Lib.tabData .u64 Lib.pow10Tab, p) := hd
  unfold uz Lib.TabIs
  rw [hv, ← Lib.cells_of_tab (n := 20) (e := 162) Tryz.underlying179 Tryz.underlying162 (by kernel_rfl) (by kernel_rfl) hd']
theorem star : "*" ++ "errors.errorString" = "*errors.errorString" := by decide
theorem anR (u : TypeId) (h : Tryz.prog.typeName? 3 u = some "*errors.errorString") : u = 194 :=
  typeName_ptr_named (nm := "errors.errorString") (by rw [star]; kernel_rfl) (by kernel_rfl) (by decide) u (by rw [star]; exact h)
theorem aCk {w : World} (h : laidMetH Tryz.prog (DV (H := Unit)) w) : vW w := by
  rw [MakeChecks.laidMetH_plain _ _ _ (by kernel_rfl)] at h
  unfold DV at h
  have g0 : Tryz.prog.globalNamed "strconv.ErrSyntax" = some 2 := by kernel_rfl
  obtain ⟨a0, s0, v0, -, -, -⟩ := laid_sentinel h.tail.tail.tail.tail g0 (show (Tryz.prog.globals[2]?).map (·.type) = some 144 by kernel_rfl) Tryz.underlying144 anR Tryz.underlying194 Tryz.underlying196 rfl rfl Tryz.underlying9 (by kernel_rfl) (by kernel_rfl)
  have g1 : Tryz.prog.globalNamed "strconv.ErrRange" = some 3 := by kernel_rfl
  obtain ⟨a1, s1, v1, -, -, -⟩ := laid_sentinel h.tail.tail.tail g1 (show (Tryz.prog.globals[3]?).map (·.type) = some 144 by kernel_rfl) Tryz.underlying144 anR Tryz.underlying194 Tryz.underlying196 rfl rfl Tryz.underlying9 (by kernel_rfl) (by kernel_rfl)
  exact ⟨⟨_, by have q0 := World.var?_cell g0 v0 0; simpa using q0, .inr ⟨_, _, rfl⟩⟩, _, by have q1 := World.var?_cell g1 v1 0; simpa using q1, .inr ⟨_, _, rfl⟩⟩
set_option maxRecDepth 100000 in
theorem wrap (os : Os) (started : os.Started) (H : Type) (enc : TypeId × Value → H)
    (hC : ∀ (W : World) (base : Nat) (args : Array Value) (ds gs : List (DataW H)) (before : List MemPlace), (∀ (j : Nat) t v, Tryz.f4.params[j]? = some t → args[j]? = some v → Value.okWide Tryz.prog W .any base t v) →
      DataW.Whole enc Tryz.prog Tryz.f4.params.toList Rows.fnExactParcelIxSpec.vars false W args.toList ds gs before → W.ShapedOpen Tryz.prog → laidMetH Tryz.prog (DV (H := Unit)) W →
      Calls Tryz.prog 4 args W fun e W' => ∃ v, e = .returned v ∧ Rows.fnExactParcelIxSpec.post enc Tryz.prog Tryz.f4 false true false false W args v W') :
    ReturnsInHanded {} Tryz.checked os 4 .any (fun w args => (Rows.fnExactParcelIxSpec.pre enc Tryz.prog Tryz.f4 Rows.fnExactParcelIxRow.domain false w args ∧ laidMetH Tryz.prog (DV (H := Unit)) w) ∧ sizedMet enc Tryz.prog Tryz.f4 (OpenSpec.ofChange Rows.fnExactParcelIxSpec) false w args) (Rows.fnExactParcelIxSpec.post enc Tryz.prog Tryz.f4 false true false false) := by
  refine returnsInHanded_of_calls own started (by kernel_rfl) (ChangeSpec.witness_shaped (enc := enc) (C := Tryz.checked) (os := os) (X := fun w _ => laidMetH Tryz.prog (DV (H := Unit)) w) false (World.doorLaid Tryz.prog 400 os) #[.agg #[.string ByteArray.empty, .string ByteArray.empty, .int .i64 0, .slice none 0 0]] 8 rfl (World.shaped_of_RefB (by kernel_rfl) (by kernel_rfl)) (by kernel_rfl) (by kernel_rfl) (by kernel_rfl) (auH os _)) ?_
  intro w tape i _ hsh _ hok hpre _
  obtain ⟨_, _, _, g, hg, _, _, _, _, hval⟩ := hok
  obtain rfl : g = Tryz.f4 := Option.some.inj (hg.symm.trans Tryz.func4)
  obtain ⟨⟨⟨ds, gs, before, hW, _⟩, hL⟩, _⟩ := hpre
  have hL' : laidMetH Tryz.prog (DV (H := Unit)) (w.forCall tape i) := laidMetH.of_heap (by rfl) hL
  refine (hC (w.forCall tape i) w.heap.size i.args ds gs before hval (DataW.Whole.of_heap (w' := w.forCall tape i) (by rfl) hW) hsh hL').mono fun e W' ⟨v, he, hp⟩ => ?_
  subst he
  exact ChangeSpec.post_blind hp
set_option maxRecDepth 100000 in
theorem lifted (os : Os) (started : os.Started) (H : Type) (enc : TypeId × Value → H) :
    ReturnsInHanded {} Tryz.checked os 4 .any (fun w args => (Rows.fnExactParcelIxSpec.pre enc Tryz.prog Tryz.f4 Rows.fnExactParcelIxRow.domain false w args ∧ laidMetH Tryz.prog (DV (H := Unit)) w) ∧ sizedMet enc Tryz.prog Tryz.f4 (OpenSpec.ofChange Rows.fnExactParcelIxSpec) false w args) (Rows.fnExactParcelIxSpec.post enc Tryz.prog Tryz.f4 false true false false) := by
  refine wrap os started H enc ?_
  intro W base args ds gs before hval0 hW hsh hL
  have hval : ∀ (j : Nat) t v, Tryz.f4.params[j]? = some t → args[j]? = some v → Value.okWide Tryz.prog W .any base t v := hval0
  have hW' := hW
  obtain ⟨p, q, hA0, hV, rfl, hfz, hnd⟩ := hW
  have hA : DataW.TrodAll enc Tryz.prog W 0 (fun _ => true) true Tryz.f4.params.toList args.toList ds p := hA0
  rw [Tryz.params4] at hA hval
  obtain ⟨v0, vs0, d0, ds0, p0, q0, hargs, rfl, rfl, h0, r0⟩ := trodAll_cons hA
  obtain ⟨rfl, rfl, rfl⟩ := trodAll_nil r0
  obtain rfl : args = #[v0] := by cases args; simp_all
  obtain ⟨rfl, rfl⟩ := trodVars_none hV
  obtain ⟨cs0, rfl, _⟩ := okWide_struct Tryz.underlying24 (hval 0 24 v0 rfl rfl)
  have k0 := h0
  have lt0 : ∀ x ∈ p0, x.block < W.heap.size := by obtain ⟨m, hm⟩ := k0; exact DataW.trod_lt m _ _ _ hm
  obtain ⟨m0, hf0⟩ := h0
  obtain ⟨x0, hK0, w0⟩ := azz _ _ _ _ _ _ _ _ _ hf0
  have avS : k24.K W x0 cs0.toList := hK0
  obtain ⟨dZ, dW, avX, jk, jl⟩ := ax2 avS
  obtain rfl : cs0 = #[.string x0.f0, .string x0.f1, .int .i64 x0.f2, .slice dZ x0.f3.length dW] := by cases cs0; simpa using avX
  clear hA0 hval0
  obtain ⟨k, h⟩ := Pure.FnExactParcelIx x0.f0 x0.f1 x0.f2 x0.f3 w0.1 w0.2.1 w0.2.2.1 w0.2.2.2
  refine (IC.calls k x0.f0 x0.f1 x0.f2 _ _ x0.f3 true W jl jk (Tryz.ayv.s1_3 W hsh) (aCj hL) (aCk hL) h).mono fun e W' ⟨he, hd⟩ => ?_
  have bel : Below W.heap.size W W' := hd
  subst he
  exact ⟨_, rfl, _, _, _, [], _, [], hW', trodAll_mk1 (shut_bool Tryz.underlying4 _), (trodAll_cons_mk (Below.trod laidOut (by kernel_rfl) (of_decide_eq_true (by kernel_rfl)) k0 bel lt0) trodAll_mk0), rfl, bel.frame _, fun h => by cases h⟩
theorem over : Rows.fnExactParcelIxRow.holds Tryz.pinned (OpenSpec.ofChange Rows.fnExactParcelIxSpec) :=
  OpenClaim.holds_of_wide 4 Tryz.f4 rfl rfl rfl rfl rfl rfl rfl ⟨rfl, rfl, rfl, rfl, rfl⟩ rfl rfl rfl rfl rfl (by kernel_rfl) Tryz.func4 (by kernel_rfl)
    (of_decide_eq_true (by kernel_rfl)) (by unfold Func.isWrapper; first | (rw [if_pos (by decide +kernel)]; kernel_rfl) | (rw [if_neg (by decide +kernel)]; exact ⟨rfl, rfl⟩))
    (fun os started H enc _ => lifted os started H enc)
theorem proved : Rows.FnExactParcelIxCardSaid :=
  Claim7.holds_tied_plain_at .later [] [.data, .data, .data, .sentinel, .sentinel] true (true, "bacf88d50f332193e52ad1ec52f14978ae3bdd28960e214e06a7ad37711fbde6") true
    over (fun _ h => by cases h) (by kernel_rfl) (fun _ h => by cases h) fnExactParcelIx_row_tie rfl ⟨rfl, rfl⟩ (by kernel_rfl) rfl
    (fun f fn hf hfn => by
      obtain rfl : f = 4 := Option.some.inj ((show Tryz.prog.funcNamed "loop.example/g00096/laws.FnExactParcelIx" = some 4 by kernel_rfl).symm.trans hf) |>.symm
      obtain rfl : fn = Tryz.f4 := (Option.some.inj (Tryz.func4.symm.trans hfn)).symm
      exact ⟨by kernel_rfl, fun j t ht => by
        rw [Tryz.params4] at ht
        have hm : t ∈ [24] := by simpa using Array.mem_of_getElem? ht
        have hall : ([24].all fun u => !Tryz.prog.wantsStandIn u) = true := by kernel_rfl
        exact (show Tryz.prog.wantsStandIn t = false by simpa using List.all_eq_true.1 hall t hm)⟩)
    (by kernel_rfl)
#print axioms proved
end Go.Proofs.YtapilmimgiaglaaGreatDoor.fnExactParcelIx
namespace Go.Proofs.YtapilmimgiaglaaGreatDoor
/-- The row, under a short name, for the claim. -/
theorem fnExactParcelIx_holds : Rows.FnExactParcelIxCardSaid := fnExactParcelIx.proved
end Go.Proofs.YtapilmimgiaglaaGreatDoor
