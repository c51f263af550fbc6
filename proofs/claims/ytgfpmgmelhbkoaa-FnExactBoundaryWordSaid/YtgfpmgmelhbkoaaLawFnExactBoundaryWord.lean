/- The law FnExactBoundaryWord holds of the program for every input: it returns true, and each argument reads afterwards as before; no condition. -/
import Derived.Test.YtgfpmgmelhbkoaaRows
import Derived.Test.YtgfpmgmelhbkoaaQ21
import Derived.Test.YtgfpmgmelhbkoaaPureFnExactBoundaryWord
import Derived.WalkKit
import Derived.ProofKit
import Derived.OpenShut
import Derived.ShutString
import Derived.ChangeOld
import Derived.Below
import Derived.SizedLaws
import Derived.Test.YtgfpmgmelhbkoaaK2
namespace Go.Proofs.Ytgfpmgmelhbkoaa.fnExactBoundaryWord
open Go.ChangeShapes Go.WideShapes Go.ChangeAt Go.RowKit Go.Proofs.Ytgfpmgmelhbkoaa Go.Proofs.Ytgfpmgmelhbkoaa.Q Go.Proofs.Ytgfpmgmelhbkoaa.UFnExactBoundaryWord Go.Proofs.YtgfpmgmelhbkoaaW.PrintWords
open Go.ChangeMaps (open_string shut_string)
set_option linter.unusedVariables false
theorem own : ownKnob Try.prog.godebug = none := by kernel_rfl
theorem laidOut : laidOutB Try.prog = true := by kernel_rfl
theorem opn37 : Opn Try.prog 37 k37 wfT37 :=
  Opn.iso (Opn.fields2 Try.underlying37 (by kernel_rfl) rfl rfl (by kernel_rfl) (by kernel_rfl) (Opn.i64 Try.underlying2) (Opn.i64 Try.underlying2)) _ (fun a => ⟨a.1, a.2⟩) (fun _ => rfl)
set_option maxRecDepth 100000 in
theorem lifted (os : Os) (started : os.Started) (H : Type) (enc : TypeId × Value → H) :
    ReturnsInHanded {} Try.checked os 4 .any (Rows.fnExactBoundaryWordSpec.pre6 enc Try.prog Try.f4 Rows.fnExactBoundaryWordRow.domain false) (Rows.fnExactBoundaryWordSpec.post enc Try.prog Try.f4 false true false false) := by
  refine returnsInHanded_of_change_sized (C := Try.checked) own started (by kernel_rfl) Try.func4
    (ChangeSpec.witness6 (enc := enc) (C := Try.checked) false ⟨#[], #[.slice none 0 0], []⟩ 8 (by kernel_rfl) (by kernel_rfl) (by kernel_rfl) (by kernel_rfl)) ?_
  intro W base args ds gs before hval0 hW hcnd hsz0 _
  have hsz : (DataW.weightsEach Try.prog (Try.f4.params.toList ++ Rows.fnExactBoundaryWordSpec.plain.varTypes Try.prog) (ds ++ gs)).all (· ≤ reachBytes) = true := hsz0
  have hval : ∀ (j : Nat) t v, Try.f4.params[j]? = some t → args[j]? = some v → Value.okWide Try.prog W .any base t v := hval0
  have hW' := hW
  obtain ⟨p, q, hA0, hV, rfl, hfz, hnd⟩ := hW
  have hA : DataW.TrodAll enc Try.prog W 0 (fun _ => true) true Try.f4.params.toList args.toList ds p := hA0
  rw [Try.params4] at hA hval hsz
  obtain ⟨v0, vs0, d0, ds0, p0, q0, hargs, rfl, rfl, h0, r0⟩ := trodAll_cons hA
  obtain ⟨rfl, rfl, rfl⟩ := trodAll_nil r0
  obtain rfl : args = #[v0] := by cases args; simp_all
  obtain ⟨rfl, rfl⟩ := trodVars_none hV
  have k0 := h0
  have lt0 := Trod_lt h0
  obtain ⟨A0, c0, l0, rfl, hc0, hr0, hg0⟩ := Opn.row (Opn.slice (e := 37) Try.underlying22 (by kernel_rfl) opn37) Try.underlying22 (hval 0 22 v0 rfl rfl) h0
  clear hA0 hval0 hsz0 hsz
  obtain ⟨k, hk⟩ := Pure.FnExactBoundaryWord l0 hg0
  refine (laws_FnExactBoundaryWord.calls k A0 c0 l0 W hr0 hc0 hk).mono fun e W' ⟨he, bel0⟩ => ?_
  have bel := bel0
  subst he
  exact ⟨_, rfl, _, _, _, [], _, [], hW', trodAll_mk1 (shut_bool Try.underlying4 _), (trodAll_cons_mk (Below.trod laidOut (by kernel_rfl) (of_decide_eq_true (by kernel_rfl)) k0 bel lt0) trodAll_mk0), rfl, bel.frame _, fun h => by cases h⟩
theorem over : Rows.fnExactBoundaryWordRow.holds Try.pinned (OpenSpec.ofChange Rows.fnExactBoundaryWordSpec) :=
  OpenClaim.holds_of_wide 4 Try.f4 rfl rfl rfl rfl rfl rfl rfl ⟨rfl, rfl, rfl, rfl, rfl⟩ rfl rfl rfl rfl rfl (by kernel_rfl) Try.func4 (by kernel_rfl)
    (of_decide_eq_true (by kernel_rfl)) (by unfold Func.isWrapper; first | (rw [if_pos (by decide +kernel)]; kernel_rfl) | (rw [if_neg (by decide +kernel)]; exact ⟨rfl, rfl⟩))
    (fun os started H enc _ => lifted os started H enc)
theorem proved : Rows.FnExactBoundaryWordSaid := over
#print axioms proved
end Go.Proofs.Ytgfpmgmelhbkoaa.fnExactBoundaryWord
namespace Go.Proofs.Ytgfpmgmelhbkoaa
/-- The row, under a short name, for the claim. -/
theorem fnExactBoundaryWord_holds : Rows.FnExactBoundaryWordSaid := fnExactBoundaryWord.proved
end Go.Proofs.Ytgfpmgmelhbkoaa
