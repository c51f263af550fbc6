/- Written by a program of this session (wip/tools/pp.py) out of the translation, with the kit's printer. -/
import Derived.Test.YtcgnnfaemjjljaaDoorQ0
import Derived.Test.YtcgnnfaemjjljaaDoorQ19
import Derived.Test.YtcgnnfaemjjljaaDoorQ21
namespace Go.Proofs.YtcgnnfaemjjljaaDoor.Q
open Go.RowKit Go.Proofs.YtcgnnfaemjjljaaDoorW.PrintWords Go.Proofs.YtcgnnfaemjjljaaDoorW.PrintLast Go.Proofs.YtcgnnfaemjjljaaDoorW.PrintMore
attribute [local go_sem] max2_int min2_int max_two min_two max_three min_three max_four min_four
set_option linter.unusedVariables false
set_option linter.unusedSimpArgs false

/-! ### laws_FnExactIsFactoring: function 7 -/
def laws_FnExactIsFactoring.f (k : Nat) (a0 : ByteArray) (a1 : Int) (a2 : Int) (a3 : Int) : Option (Bool) := if (a0.size : Int) > 1048576 then (some true) else ((spec_IsFactoring.f k a0 a1 a2 a3).bind fun t198 => ((impl_IsFactoring.f k a0 a1 a2 a3).bind fun t199 => (if (t199 != t198) = true then (some false) else (some true))))
theorem laws_FnExactIsFactoring.mono : ∀ a0 a1 a2 a3 k, LeO (laws_FnExactIsFactoring.f k a0 a1 a2 a3) (laws_FnExactIsFactoring.f (k + 1) a0 a1 a2 a3) := by
 intro a0 a1 a2 a3 k
 unfold laws_FnExactIsFactoring.f
 repeat' first
   | (with_reducible exact impl_IsFactoring.mono _ _ _ _ _)
   | (with_reducible exact spec_IsFactoring.mono _ _ _ _ _)
   | (with_reducible exact LeO.refl _)
   | (with_reducible exact LeO.none _)
   | (with_reducible refine LeO.ite ?_ ?_)
   | (with_reducible refine LeO.bind ?_ (fun _ => ?_))
   | exact impl_IsFactoring.mono _ _ _ _ _
   | exact spec_IsFactoring.mono _ _ _ _ _
   | exact LeO.none _
   | refine LeO.ite ?_ ?_
   | refine LeO.bind ?_ (fun _ => ?_)
set_option maxHeartbeats 8000000 in
set_option maxRecDepth 100000 in
theorem laws_FnExactIsFactoring.calls (k : Nat) (a0 : ByteArray) (a1 : Int) (a2 : Int) (a3 : Int) (w : World) (h : laws_FnExactIsFactoring.f k a0 a1 a2 a3 = some true) :
  Calls Tryd.prog 7 #[.string a0, .int .i64 a1, .int .i64 a2, .int .i64 a3] w fun e w' => e = .returned (.bool true) ∧ Below w.heap.size w w' := by
 have HB := am (Below.refl w.heap.size w)
 have H : (if (a0.size : Int) > 1048576 then (some true) else ((spec_IsFactoring.f k a0 a1 a2 a3).bind fun t198 => ((impl_IsFactoring.f k a0 a1 a2 a3).bind fun t199 => (if (t199 != t198) = true then (some false) else (some true))))) = some true := h
 clear h
 by_cases c5 : (a0.size : Int) > 1048576
 ·rw [if_pos c5] at H
  have c5b0 : decide (1048576 < (a0.size : Int)) = true := decide_eq_true c5
  have c5b1 : decide (1048576 < a0.size) = true := decide_eq_true (by omega)
  clear c5
  clear H
  go_enter Tryd.func7, Tryd.ntmps7
  go_wp2
  go_ret
  exact ⟨by first | rfl | (simp [errW_none, errW_some] <;> rfl) | (simp [*, errW_none, errW_some] <;> rfl), by repeat (first | (with_reducible first | exact HB.out | apply b1 | apply b2 | apply b3) | exact HB.out)⟩
 ·rw [if_neg c5] at H
  have c5b0 : decide (1048576 < (a0.size : Int)) = false := decide_eq_false c5
  have c5b1 : decide (1048576 < a0.size) = false := decide_eq_false (by omega)
  clear c5
  replace H := ob H
  obtain ⟨t198, A60, H⟩ := H
  replace H : ((impl_IsFactoring.f k a0 a1 a2 a3).bind fun t199 => (if (t199 != t198) = true then (some false) else (some true))) = some true := H
  have A6 := am A60
  clear A60
  replace H := ob H
  obtain ⟨t199, A70, H⟩ := H
  replace H : (if (t199 != t198) = true then (some false) else (some true)) = some true := H
  have A7 := am A70
  clear A70
  by_cases c8 : (t199 != t198) = true
  ·rw [if_pos c8] at H
   have c8b0 : (t199 != t198) = true := c8
   (try (have c8b1 : decide (t199 = t198) = false := by simpa using c8))
   (try (have c8b2 : (t199 == t198) = false := by simpa using c8))
   (try (have c8b3 : ¬ (t199 = t198) := by simpa using c8))
   clear c8
   exact absurd H (by simp)
  ·rw [if_neg c8] at H
   have c8b0 : (t199 != t198) = false := by simpa using c8
   (try (have c8b1 : decide (t199 = t198) = true := by simpa using c8))
   (try (have c8b2 : (t199 == t198) = true := by simpa using c8))
   clear c8
   clear H
   go_enter Tryd.func7, Tryd.ntmps7
   go_wp2_with (first | ((with_reducible refine gate_callee (f := 19) rfl ?_); refine goesL_ (some 18) rfl rfl Tryd.func19 (by kernel_rfl) rfl #[.string a0, .int .i64 a1, .int .i64 a2, .int .i64 a3] rfl (by (try simp only [List.map_toArray, List.map_cons, List.map_nil]); first | done | rfl | (simp only [List.length_drop, List.length_take]; rfl)) ?_; (with_reducible refine (spec_IsFactoring.calls k a0 a1 a2 a3 t198 _ A6.out).mono ?_); rintro e w9 ⟨rfl, hb⟩; refine ⟨_, rfl, ?_⟩; have n0_ := am (b6 (by repeat (first | (with_reducible first | exact HB.out | apply b1 | apply b2 | apply b3) | exact HB.out)) hb); clear HB; have HB := n0_; clear n0_; (try clear hb); (try clear hb2); (try clear hk); (try clear hi)) | ((with_reducible refine gate_callee (f := 20) rfl ?_); refine goesL_ (some 23) rfl rfl Tryd.func20 (by kernel_rfl) rfl #[.string a0, .int .i64 a1, .int .i64 a2, .int .i64 a3] rfl (by (try simp only [List.map_toArray, List.map_cons, List.map_nil]); first | done | rfl | (simp only [List.length_drop, List.length_take]; rfl)) ?_; (with_reducible refine (impl_IsFactoring.calls k a0 a1 a2 a3 t199 _ A7.out).mono ?_); rintro e w10 ⟨rfl, hb⟩; refine ⟨_, rfl, ?_⟩; have n0_ := am (b6 (by repeat (first | (with_reducible first | exact HB.out | apply b1 | apply b2 | apply b3) | exact HB.out)) hb); clear HB; have HB := n0_; clear n0_; (try clear hb); (try clear hb2); (try clear hk); (try clear hi)))
   go_ret
   exact ⟨by first | rfl | (simp [errW_none, errW_some] <;> rfl) | (simp [*, errW_none, errW_some] <;> rfl), by repeat (first | (with_reducible first | exact HB.out | apply b1 | apply b2 | apply b3) | exact HB.out)⟩

end Go.Proofs.YtcgnnfaemjjljaaDoor.Q
