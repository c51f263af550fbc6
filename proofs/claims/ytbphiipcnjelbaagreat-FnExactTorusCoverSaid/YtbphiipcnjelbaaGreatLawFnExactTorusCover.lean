/- The law FnExactTorusCover holds of the program for every input: it returns true, and each argument reads afterwards as before; no condition. -/
import Derived.Test.YtbphiipcnjelbaaGreatRows
import Derived.Test.YtbphiipcnjelbaaGreatQGlawsFnExactTorusCover
import Derived.Test.YtbphiipcnjelbaaGreatPureFnExactTorusCover
import Derived.WalkKit
import Derived.ProofKit
import Derived.OpenShut
import Derived.ShutString
import Derived.ChangeOld
import Derived.Below
import Derived.SizedLaws
import Derived.Test.YtbphiipcnjelbaaGreatK2
namespace Go.Proofs.YtbphiipcnjelbaaGreat.fnExactTorusCover
open Go.ChangeShapes Go.WideShapes Go.ChangeAt Go.RowKit Go.Proofs.YtbphiipcnjelbaaGreat Go.Proofs.YtbphiipcnjelbaaGreat.Q Go.Proofs.YtbphiipcnjelbaaGreat.UFnExactTorusCover Go.Proofs.YtbphiipcnjelbaaGreatW.PrintWords
open Go.ChangeMaps (open_string shut_string)
set_option linter.unusedVariables false
theorem own : ownKnob Tryz.prog.godebug = none := by kernel_rfl
theorem laidOut : laidOutB Tryz.prog = true := by kernel_rfl
theorem opn70 : Opn Tryz.prog 70 k70 wfT70 :=
  Opn.iso (Opn.fields2 Tryz.underlying70 (by kernel_rfl) rfl rfl (by kernel_rfl) (by kernel_rfl) (Opn.i64 Tryz.underlying2) (Opn.i64 Tryz.underlying2)) _ (fun a => ⟨a.1, a.2⟩) (fun _ => rfl)
theorem opn24 : Opn Tryz.prog 24 k24 wfT24 :=
  Opn.iso (Opn.fields3 Tryz.underlying24 (by kernel_rfl) rfl rfl rfl (by kernel_rfl) (by kernel_rfl) (by kernel_rfl) (Opn.slice (e := 70) Tryz.underlying22 (by kernel_rfl) opn70) (Opn.i64 Tryz.underlying2) (Opn.bool Tryz.underlying4)) _ (fun a => ⟨a.1, a.2.1, a.2.2⟩) (fun _ => rfl)
set_option maxRecDepth 100000 in
theorem lifted (os : Os) (started : os.Started) (H : Type) (enc : TypeId × Value → H) :
    ReturnsInHanded {} Tryz.checked os 5 .any (Rows.fnExactTorusCoverSpec.pre6 enc Tryz.prog Tryz.f5 Rows.fnExactTorusCoverRow.domain false) (Rows.fnExactTorusCoverSpec.post enc Tryz.prog Tryz.f5 false true false false) := by
  refine returnsInHanded_of_change_sized (C := Tryz.checked) own started (by kernel_rfl) Tryz.func5
    (ChangeSpec.witness6 (enc := enc) (C := Tryz.checked) false ⟨#[], #[.agg #[.slice none 0 0, .int .i64 0, .bool false], .int .i64 0, .int .i64 0], []⟩ 8 (by kernel_rfl) (by kernel_rfl) (by kernel_rfl) (by kernel_rfl)) ?_
  intro W base args ds gs before hval0 hW hcnd hsz0 _
  have hsz : (DataW.weightsEach Tryz.prog (Tryz.f5.params.toList ++ Rows.fnExactTorusCoverSpec.plain.varTypes Tryz.prog) (ds ++ gs)).all (· ≤ reachBytes) = true := hsz0
  have hval : ∀ (j : Nat) t v, Tryz.f5.params[j]? = some t → args[j]? = some v → Value.okWide Tryz.prog W .any base t v := hval0
  have hW' := hW
  obtain ⟨p, q, hA0, hV, rfl, hfz, hnd⟩ := hW
  have hA : DataW.TrodAll enc Tryz.prog W 0 (fun _ => true) true Tryz.f5.params.toList args.toList ds p := hA0
  rw [Tryz.params5] at hA hval hsz
  obtain ⟨v0, vs0, d0, ds0, p0, q0, hargs, rfl, rfl, h0, r0⟩ := trodAll_cons hA
  obtain ⟨v1, vs1, d1, ds1, p1, q1, rfl, rfl, rfl, h1, r1⟩ := trodAll_cons r0
  obtain ⟨v2, vs2, d2, ds2, p2, q2, rfl, rfl, rfl, h2, r2⟩ := trodAll_cons r1
  obtain ⟨rfl, rfl, rfl⟩ := trodAll_nil r2
  obtain rfl : args = #[v0, v1, v2] := by cases args; simp_all
  obtain ⟨rfl, rfl⟩ := trodVars_none hV
  have k0 := h0
  have lt0 := Trod_lt h0
  obtain ⟨cs0, s0, rfl, hK0, hg0⟩ := Opn.agg opn24 Tryz.underlying24 (hval 0 24 v0 rfl rfl) h0
  obtain ⟨hg0_0, hg0_1, hg0_2⟩ := hg0
  obtain ⟨l0_0, a0_1, a0_2⟩ := s0
  obtain ⟨_, _, rfl, ⟨A0_0, c0_0, rfl, hc0_0, hr0_0⟩, ⟨_, _, rfl, rfl, rfl⟩⟩ := hK0
  obtain ⟨a1, rfl, rfl, rfl, w1⟩ := open_int Tryz.underlying2 (hval 1 2 v1 rfl rfl) h1
  obtain ⟨a2, rfl, rfl, rfl, w2⟩ := open_int Tryz.underlying2 (hval 2 2 v2 rfl rfl) h2
  clear hA0 hval0 hsz0 hsz
  obtain ⟨k, hk⟩ := Pure.FnExactTorusCover l0_0 a0_1 a0_2 a1 a2 hg0_0 hg0_1 (I64_wf.1 w1) (I64_wf.1 w2)
  refine (laws_FnExactTorusCover.calls k A0_0 c0_0 l0_0 a0_1 a0_2 a1 a2 W hr0_0 hc0_0 hk).mono fun e W' ⟨he, bel0⟩ => ?_
  have bel := bel0
  subst he
  exact ⟨_, rfl, _, _, _, [], _, [], hW', trodAll_mk1 (shut_bool Tryz.underlying4 _), (trodAll_cons_mk (Below.trod laidOut (by kernel_rfl) (of_decide_eq_true (by kernel_rfl)) k0 bel lt0) (trodAll_cons_mk (shut_int Tryz.underlying2 w1) (trodAll_cons_mk (shut_int Tryz.underlying2 w2) trodAll_mk0))), rfl, bel.frame _, fun h => by cases h⟩
theorem over : Rows.fnExactTorusCoverRow.holds Tryz.pinned (OpenSpec.ofChange Rows.fnExactTorusCoverSpec) :=
  OpenClaim.holds_of_wide 5 Tryz.f5 rfl rfl rfl rfl rfl rfl rfl ⟨rfl, rfl, rfl, rfl, rfl⟩ rfl rfl rfl rfl rfl (by kernel_rfl) Tryz.func5 (by kernel_rfl)
    (of_decide_eq_true (by kernel_rfl)) (by unfold Func.isWrapper; first | (rw [if_pos (by decide +kernel)]; kernel_rfl) | (rw [if_neg (by decide +kernel)]; exact ⟨rfl, rfl⟩))
    (fun os started H enc _ => lifted os started H enc)
theorem proved : Rows.FnExactTorusCoverSaid := over
#print axioms proved
end Go.Proofs.YtbphiipcnjelbaaGreat.fnExactTorusCover
namespace Go.Proofs.YtbphiipcnjelbaaGreat
/-- The row, under a short name, for the claim. -/
theorem fnExactTorusCover_holds : Rows.FnExactTorusCoverSaid := fnExactTorusCover.proved
end Go.Proofs.YtbphiipcnjelbaaGreat
