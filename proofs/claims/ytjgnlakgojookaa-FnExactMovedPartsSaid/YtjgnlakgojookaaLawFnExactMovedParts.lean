/- The law FnExactMovedParts holds of the program for every input: it returns true, and each argument reads afterwards as before; no condition. -/
import Derived.Test.YtjgnlakgojookaaRows
import Derived.Test.YtjgnlakgojookaaQGlawsFnExactMovedParts
import Derived.Test.YtjgnlakgojookaaPureFnExactMovedParts
import Derived.WalkKit
import Derived.ProofKit
import Derived.OpenShut
import Derived.ShutString
import Derived.ChangeOld
import Derived.Below
import Derived.SizedLaws
import Derived.Test.YtjgnlakgojookaaK1
namespace Go.Proofs.Ytjgnlakgojookaa.fnExactMovedParts
open Go.ChangeShapes Go.WideShapes Go.ChangeAt Go.RowKit Go.Proofs.Ytjgnlakgojookaa Go.Proofs.Ytjgnlakgojookaa.Q Go.Proofs.Ytjgnlakgojookaa.UFnExactMovedParts Go.Proofs.YtjgnlakgojookaaW.PrintWords
open Go.ChangeMaps (open_string shut_string)
set_option linter.unusedVariables false
theorem own : ownKnob Try.prog.godebug = none := by kernel_rfl
theorem laidOut : laidOutB Try.prog = true := by kernel_rfl
theorem opn79 : Opn Try.prog 79 k79 wfT79 :=
  Opn.iso (Opn.fields3 Try.underlying79 (by kernel_rfl) rfl rfl rfl (by kernel_rfl) (by kernel_rfl) (by kernel_rfl) (Opn.i64 Try.underlying2) (Opn.i64 Try.underlying2) (Opn.i64 Try.underlying2)) _ (fun a => ⟨a.1, a.2.1, a.2.2⟩) (fun _ => rfl)
theorem opn24 : Opn Try.prog 24 k24 wfT24 :=
  Opn.iso (Opn.fields1 Try.underlying24 (by kernel_rfl) rfl (by kernel_rfl) (Opn.slice (e := 33) Try.underlying22 (by kernel_rfl) (Opn.slice (e := 79) Try.underlying33 (by kernel_rfl) opn79))) _ (fun a => ⟨a⟩) (fun _ => rfl)
set_option maxRecDepth 100000 in
theorem lifted (os : Os) (started : os.Started) (H : Type) (enc : TypeId × Value → H) :
    ReturnsInHanded {} Try.checked os 7 .any (Rows.fnExactMovedPartsSpec.pre6 enc Try.prog Try.f7 Rows.fnExactMovedPartsRow.domain false) (Rows.fnExactMovedPartsSpec.post enc Try.prog Try.f7 false true false false) := by
  refine returnsInHanded_of_change_sized (C := Try.checked) own started (by kernel_rfl) Try.func7
    (ChangeSpec.witness6 (enc := enc) (C := Try.checked) false ⟨#[], #[.agg #[.slice none 0 0], .slice none 0 0], []⟩ 8 (by kernel_rfl) (by kernel_rfl) (by kernel_rfl) (by kernel_rfl)) ?_
  intro W base args ds gs before hval0 hW hcnd hsz0 _
  have hsz : (DataW.weightsEach Try.prog (Try.f7.params.toList ++ Rows.fnExactMovedPartsSpec.plain.varTypes Try.prog) (ds ++ gs)).all (· ≤ reachBytes) = true := hsz0
  have hval : ∀ (j : Nat) t v, Try.f7.params[j]? = some t → args[j]? = some v → Value.okWide Try.prog W .any base t v := hval0
  have hW' := hW
  obtain ⟨p, q, hA0, hV, rfl, hfz, hnd⟩ := hW
  have hA : DataW.TrodAll enc Try.prog W 0 (fun _ => true) true Try.f7.params.toList args.toList ds p := hA0
  rw [Try.params7] at hA hval hsz
  obtain ⟨v0, vs0, d0, ds0, p0, q0, hargs, rfl, rfl, h0, r0⟩ := trodAll_cons hA
  obtain ⟨v1, vs1, d1, ds1, p1, q1, rfl, rfl, rfl, h1, r1⟩ := trodAll_cons r0
  obtain ⟨rfl, rfl, rfl⟩ := trodAll_nil r1
  obtain rfl : args = #[v0, v1] := by cases args; simp_all
  obtain ⟨rfl, rfl⟩ := trodVars_none hV
  have k0 := h0
  have lt0 := Trod_lt h0
  obtain ⟨cs0, s0, rfl, hK0, hg0⟩ := Opn.agg opn24 Try.underlying24 (hval 0 24 v0 rfl rfl) h0
  have hg0_0 := hg0
  obtain ⟨l0_0⟩ := s0
  obtain ⟨A0_0, c0_0, rfl, hc0_0, hr0_0⟩ := hK0
  have k1 := h1
  have lt1 := Trod_lt h1
  obtain ⟨A1, c1, l1, rfl, hc1, hr1, hg1⟩ := Opn.row (Opn.slice (e := 79) Try.underlying33 (by kernel_rfl) opn79) Try.underlying33 (hval 1 33 v1 rfl rfl) h1
  clear hA0 hval0 hsz0 hsz
  obtain ⟨k, hk⟩ := Pure.FnExactMovedParts l0_0 l1 hg0_0 hg1
  refine (laws_FnExactMovedParts.calls k A0_0 c0_0 l0_0 A1 c1 l1 W hr0_0 hc0_0 hr1 hc1 hk).mono fun e W' ⟨he, bel0⟩ => ?_
  have bel := bel0
  subst he
  exact ⟨_, rfl, _, _, _, [], _, [], hW', trodAll_mk1 (shut_bool Try.underlying4 _), (trodAll_cons_mk (Below.trod laidOut (by kernel_rfl) (of_decide_eq_true (by kernel_rfl)) k0 bel lt0) (trodAll_cons_mk (Below.trod laidOut (by kernel_rfl) (of_decide_eq_true (by kernel_rfl)) k1 bel lt1) trodAll_mk0)), rfl, bel.frame _, fun h => by cases h⟩
theorem over : Rows.fnExactMovedPartsRow.holds Try.pinned (OpenSpec.ofChange Rows.fnExactMovedPartsSpec) :=
  OpenClaim.holds_of_wide 7 Try.f7 rfl rfl rfl rfl rfl rfl rfl ⟨rfl, rfl, rfl, rfl, rfl⟩ rfl rfl rfl rfl rfl (by kernel_rfl) Try.func7 (by kernel_rfl)
    (of_decide_eq_true (by kernel_rfl)) (by unfold Func.isWrapper; first | (rw [if_pos (by decide +kernel)]; kernel_rfl) | (rw [if_neg (by decide +kernel)]; exact ⟨rfl, rfl⟩))
    (fun os started H enc _ => lifted os started H enc)
theorem proved : Rows.FnExactMovedPartsSaid := over
#print axioms proved
end Go.Proofs.Ytjgnlakgojookaa.fnExactMovedParts
namespace Go.Proofs.Ytjgnlakgojookaa
/-- The row, under a short name, for the claim. -/
theorem fnExactMovedParts_holds : Rows.FnExactMovedPartsSaid := fnExactMovedParts.proved
end Go.Proofs.Ytjgnlakgojookaa
