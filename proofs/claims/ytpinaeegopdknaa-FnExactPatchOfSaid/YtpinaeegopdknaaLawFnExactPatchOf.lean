/- The law FnExactPatchOf holds of the program for every input: it returns true, and each argument reads afterwards as before; no condition. -/
import Derived.Test.YtpinaeegopdknaaRows
import Derived.Test.YtpinaeegopdknaaQ13
import Derived.Test.YtpinaeegopdknaaPureFnExactPatchOf
import Derived.WalkKit
import Derived.ProofKit
import Derived.OpenShut
import Derived.ShutString
import Derived.ChangeOld
import Derived.Below
import Derived.SizedLaws
import Derived.Test.YtpinaeegopdknaaK1
namespace Go.Proofs.Ytpinaeegopdknaa.fnExactPatchOf
open Go.ChangeShapes Go.WideShapes Go.ChangeAt Go.RowKit Go.Proofs.Ytpinaeegopdknaa Go.Proofs.Ytpinaeegopdknaa.Q Go.Proofs.Ytpinaeegopdknaa.UFnExactPatchOf Go.Proofs.YtpinaeegopdknaaW.PrintWords
open Go.ChangeMaps (open_string shut_string)
set_option linter.unusedVariables false
theorem own : ownKnob Try.prog.godebug = none := by kernel_rfl
theorem laidOut : laidOutB Try.prog = true := by kernel_rfl
theorem opn47 : Opn Try.prog 47 k47 wfT47 :=
  Opn.iso (Opn.fields2 Try.underlying47 (by kernel_rfl) rfl rfl (by kernel_rfl) (by kernel_rfl) (Opn.i64 Try.underlying2) (Opn.i64 Try.underlying2)) _ (fun a => ⟨a.1, a.2⟩) (fun _ => rfl)
theorem opn24 : Opn Try.prog 24 k24 wfT24 :=
  Opn.iso (Opn.fields3 Try.underlying24 (by kernel_rfl) rfl rfl rfl (by kernel_rfl) (by kernel_rfl) (by kernel_rfl) (Opn.i64 Try.underlying2) (Opn.i64 Try.underlying2) (Opn.i64 Try.underlying2)) _ (fun a => ⟨a.1, a.2.1, a.2.2⟩) (fun _ => rfl)
set_option maxRecDepth 100000 in
theorem lifted (os : Os) (started : os.Started) (H : Type) (enc : TypeId × Value → H) :
    ReturnsInHanded {} Try.checked os 3 .any (Rows.fnExactPatchOfSpec.pre6 enc Try.prog Try.f3 Rows.fnExactPatchOfRow.domain false) (Rows.fnExactPatchOfSpec.post enc Try.prog Try.f3 false true false false) := by
  refine returnsInHanded_of_change_sized (C := Try.checked) own started (by kernel_rfl) Try.func3
    (ChangeSpec.witness6 (enc := enc) (C := Try.checked) false ⟨#[], #[.slice none 0 0, .agg #[.int .i64 0, .int .i64 0, .int .i64 0], .int .i64 0, .int .i64 0], []⟩ 8 (by kernel_rfl) (by kernel_rfl) (by kernel_rfl) (by kernel_rfl)) ?_
  intro W base args ds gs before hval0 hW hcnd hsz0 _
  have hsz : (DataW.weightsEach Try.prog (Try.f3.params.toList ++ Rows.fnExactPatchOfSpec.plain.varTypes Try.prog) (ds ++ gs)).all (· ≤ reachBytes) = true := hsz0
  have hval : ∀ (j : Nat) t v, Try.f3.params[j]? = some t → args[j]? = some v → Value.okWide Try.prog W .any base t v := hval0
  have hW' := hW
  obtain ⟨p, q, hA0, hV, rfl, hfz, hnd⟩ := hW
  have hA : DataW.TrodAll enc Try.prog W 0 (fun _ => true) true Try.f3.params.toList args.toList ds p := hA0
  rw [Try.params3] at hA hval hsz
  obtain ⟨v0, vs0, d0, ds0, p0, q0, hargs, rfl, rfl, h0, r0⟩ := trodAll_cons hA
  obtain ⟨v1, vs1, d1, ds1, p1, q1, rfl, rfl, rfl, h1, r1⟩ := trodAll_cons r0
  obtain ⟨v2, vs2, d2, ds2, p2, q2, rfl, rfl, rfl, h2, r2⟩ := trodAll_cons r1
  obtain ⟨v3, vs3, d3, ds3, p3, q3, rfl, rfl, rfl, h3, r3⟩ := trodAll_cons r2
  obtain ⟨rfl, rfl, rfl⟩ := trodAll_nil r3
  obtain rfl : args = #[v0, v1, v2, v3] := by cases args; simp_all
  obtain ⟨rfl, rfl⟩ := trodVars_none hV
  have k0 := h0
  have lt0 := Trod_lt h0
  obtain ⟨A0, c0, l0, rfl, hc0, hr0, hg0⟩ := Opn.row (Opn.slice (e := 47) Try.underlying22 (by kernel_rfl) opn47) Try.underlying22 (hval 0 22 v0 rfl rfl) h0
  have k1 := h1
  have lt1 := Trod_lt h1
  obtain ⟨cs1, s1, rfl, hK1, hg1⟩ := Opn.agg opn24 Try.underlying24 (hval 1 24 v1 rfl rfl) h1
  obtain ⟨hg1_0, hg1_1, hg1_2⟩ := hg1
  obtain ⟨a1_0, a1_1, a1_2⟩ := s1
  obtain ⟨_, _, rfl, rfl, ⟨_, _, rfl, rfl, rfl⟩⟩ := hK1
  obtain ⟨a2, rfl, rfl, rfl, w2⟩ := open_int Try.underlying2 (hval 2 2 v2 rfl rfl) h2
  obtain ⟨a3, rfl, rfl, rfl, w3⟩ := open_int Try.underlying2 (hval 3 2 v3 rfl rfl) h3
  clear hA0 hval0 hsz0 hsz
  obtain ⟨k, hk⟩ := Pure.FnExactPatchOf l0 a1_0 a1_1 a1_2 a2 a3 hg0 hg1_0 hg1_1 hg1_2 (I64_wf.1 w2) (I64_wf.1 w3)
  refine (laws_FnExactPatchOf.calls k A0 c0 l0 a1_0 a1_1 a1_2 a2 a3 W hr0 hc0 hk).mono fun e W' ⟨he, bel0⟩ => ?_
  have bel := bel0
  subst he
  exact ⟨_, rfl, _, _, _, [], _, [], hW', trodAll_mk1 (shut_bool Try.underlying4 _), (trodAll_cons_mk (Below.trod laidOut (by kernel_rfl) (of_decide_eq_true (by kernel_rfl)) k0 bel lt0) (trodAll_cons_mk (Below.trod laidOut (by kernel_rfl) (of_decide_eq_true (by kernel_rfl)) k1 bel lt1) (trodAll_cons_mk (shut_int Try.underlying2 w2) (trodAll_cons_mk (shut_int Try.underlying2 w3) trodAll_mk0)))), rfl, bel.frame _, fun h => by cases h⟩
theorem over : Rows.fnExactPatchOfRow.holds Try.pinned (OpenSpec.ofChange Rows.fnExactPatchOfSpec) :=
  OpenClaim.holds_of_wide 3 Try.f3 rfl rfl rfl rfl rfl rfl rfl ⟨rfl, rfl, rfl, rfl, rfl⟩ rfl rfl rfl rfl rfl (by kernel_rfl) Try.func3 (by kernel_rfl)
    (of_decide_eq_true (by kernel_rfl)) (by unfold Func.isWrapper; first | (rw [if_pos (by decide +kernel)]; kernel_rfl) | (rw [if_neg (by decide +kernel)]; exact ⟨rfl, rfl⟩))
    (fun os started H enc _ => lifted os started H enc)
theorem proved : Rows.FnExactPatchOfSaid := over
#print axioms proved
end Go.Proofs.Ytpinaeegopdknaa.fnExactPatchOf
namespace Go.Proofs.Ytpinaeegopdknaa
/-- The row, under a short name, for the claim. -/
theorem fnExactPatchOf_holds : Rows.FnExactPatchOfSaid := fnExactPatchOf.proved
end Go.Proofs.Ytpinaeegopdknaa
