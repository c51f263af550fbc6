/- Written by a program of this session (wip/tools/pp.py) out of the translation, with the kit's printer. -/
import Derived.Test.YtcgnnfaemjjljaaDoorQ0
import Derived.Test.YtcgnnfaemjjljaaDoorQ2
import Derived.Test.YtcgnnfaemjjljaaDoorQ6
namespace Go.Proofs.YtcgnnfaemjjljaaDoor.Q
open Go.RowKit Go.Proofs.YtcgnnfaemjjljaaDoorW.PrintWords Go.Proofs.YtcgnnfaemjjljaaDoorW.PrintLast Go.Proofs.YtcgnnfaemjjljaaDoorW.PrintMore
attribute [local go_sem] max2_int min2_int max_two min_two max_three min_three max_four min_four
set_option linter.unusedVariables false
set_option linter.unusedSimpArgs false

/-! ### laws_FnExactTurnWord: function 3 -/
def laws_FnExactTurnWord.f (k : Nat) (a0 : ByteArray) (a1 : Int) : Option (Bool) := if (a0.size : Int) > 1048576 then (some true) else ((spec_TurnWord.f k a0 a1).bind fun bt115 => ((impl_TurnWord.f a0 a1).bind fun bt117 => (if bt117.1.toList = bt115.1.toList then (if bt117.2 = bt115.2 then (some true) else (some false)) else (some false))))
theorem laws_FnExactTurnWord.mono : ∀ a0 a1 k, LeO (laws_FnExactTurnWord.f k a0 a1) (laws_FnExactTurnWord.f (k + 1) a0 a1) := by
 intro a0 a1 k
 unfold laws_FnExactTurnWord.f
 repeat' first
   | (with_reducible exact spec_TurnWord.mono _ _ _)
   | (with_reducible exact LeO.refl _)
   | (with_reducible exact LeO.none _)
   | (with_reducible refine LeO.ite ?_ ?_)
   | (with_reducible refine LeO.bind ?_ (fun _ => ?_))
   | exact spec_TurnWord.mono _ _ _
   | exact LeO.none _
   | refine LeO.ite ?_ ?_
   | refine LeO.bind ?_ (fun _ => ?_)
set_option maxHeartbeats 8000000 in
set_option maxRecDepth 100000 in
theorem laws_FnExactTurnWord.calls (k : Nat) (a0 : ByteArray) (a1 : Int) (w : World) (h : laws_FnExactTurnWord.f k a0 a1 = some true) :
  Calls Tryd.prog 3 #[.string a0, .int .i64 a1] w fun e w' => e = .returned (.bool true) ∧ Below w.heap.size w w' := by
 have HB := am (Below.refl w.heap.size w)
 have H : (if (a0.size : Int) > 1048576 then (some true) else ((spec_TurnWord.f k a0 a1).bind fun bt115 => ((impl_TurnWord.f a0 a1).bind fun bt117 => (if bt117.1.toList = bt115.1.toList then (if bt117.2 = bt115.2 then (some true) else (some false)) else (some false))))) = some true := h
 clear h
 by_cases c3 : (a0.size : Int) > 1048576
 ·rw [if_pos c3] at H
  have c3b0 : decide (1048576 < (a0.size : Int)) = true := decide_eq_true c3
  have c3b1 : decide (1048576 < a0.size) = true := decide_eq_true (by omega)
  clear c3
  clear H
  go_enter Tryd.func3, Tryd.ntmps3
  go_wp2
  go_ret
  exact ⟨by first | rfl | (simp [errW_none, errW_some] <;> rfl) | (simp [*, errW_none, errW_some] <;> rfl), by repeat (first | (with_reducible first | exact HB.out | apply b1 | apply b2 | apply b3) | exact HB.out)⟩
 ·rw [if_neg c3] at H
  have c3b0 : decide (1048576 < (a0.size : Int)) = false := decide_eq_false c3
  have c3b1 : decide (1048576 < a0.size) = false := decide_eq_false (by omega)
  clear c3
  replace H := ob H
  obtain ⟨⟨t115, t116⟩, A40, H⟩ := H
  replace H : ((impl_TurnWord.f a0 a1).bind fun bt117 => (if bt117.1.toList = t115.toList then (if bt117.2 = t116 then (some true) else (some false)) else (some false))) = some true := H
  have A4 := am A40
  clear A40
  replace H := ob H
  obtain ⟨⟨t117, t118⟩, A50, H⟩ := H
  replace H : (if t117.toList = t115.toList then (if t118 = t116 then (some true) else (some false)) else (some false)) = some true := H
  have A5 := am A50
  clear A50
  by_cases c6 : t117.toList = t115.toList
  ·rw [if_pos c6] at H
   have c6b0 : (t117.toList == t115.toList) = true := beq_iff_eq.mpr c6
   have c6b1 : (t117.toList != t115.toList) = false := bne_eq_false_iff_eq.mpr c6
   clear c6
   by_cases c7 : t118 = t116
   ·rw [if_pos c7] at H
    have c7b0 : (t118 == t116) = true := beq_iff_eq.mpr c7
    have c7b1 : (t118 != t116) = false := bne_eq_false_iff_eq.mpr c7
    clear c7
    clear H
    go_enter Tryd.func3, Tryd.ntmps3
    go_wp2_with (first | ((with_reducible refine gate_callee (f := 11) rfl ?_); refine goesL_ (some 15) rfl rfl Tryd.func11 (by kernel_rfl) rfl #[.string a0, .int .i64 a1] rfl (by (try simp only [List.map_toArray, List.map_cons, List.map_nil]); first | done | rfl | (simp only [List.length_drop, List.length_take]; rfl)) ?_; (with_reducible refine (spec_TurnWord.calls k a0 a1 t115 t116 _ A4.out).mono ?_); rintro e w8 ⟨rfl, hb⟩; refine ⟨_, rfl, ?_⟩; have n0_ := am (b6 (by repeat (first | (with_reducible first | exact HB.out | apply b1 | apply b2 | apply b3) | exact HB.out)) hb); clear HB; have HB := n0_; clear n0_; (try clear hb); (try clear hb2); (try clear hk); (try clear hi)) | ((with_reducible refine gate_callee (f := 12) rfl ?_); refine goesL_ (some 21) rfl rfl Tryd.func12 (by kernel_rfl) rfl #[.string a0, .int .i64 a1] rfl (by (try simp only [List.map_toArray, List.map_cons, List.map_nil]); first | done | rfl | (simp only [List.length_drop, List.length_take]; rfl)) ?_; (with_reducible refine (impl_TurnWord.calls a0 a1 t117 t118 _ A5.out).mono ?_); rintro e w9 ⟨rfl, hb⟩; refine ⟨_, rfl, ?_⟩; have n0_ := am (b6 (by repeat (first | (with_reducible first | exact HB.out | apply b1 | apply b2 | apply b3) | exact HB.out)) hb); clear HB; have HB := n0_; clear n0_; (try clear hb); (try clear hb2); (try clear hk); (try clear hi)))
    go_ret
    exact ⟨by first | rfl | (simp [errW_none, errW_some] <;> rfl) | (simp [*, errW_none, errW_some] <;> rfl), by repeat (first | (with_reducible first | exact HB.out | apply b1 | apply b2 | apply b3) | exact HB.out)⟩
   ·rw [if_neg c7] at H
    have c7b0 : (t118 == t116) = false := beq_eq_false_iff_ne.mpr c7
    have c7b1 : (t118 != t116) = true := bne_iff_ne.mpr c7
    exact absurd H (by simp)
  ·rw [if_neg c6] at H
   have c6b0 : (t117.toList == t115.toList) = false := beq_eq_false_iff_ne.mpr c6
   have c6b1 : (t117.toList != t115.toList) = true := bne_iff_ne.mpr c6
   exact absurd H (by simp)

end Go.Proofs.YtcgnnfaemjjljaaDoor.Q
