/- Written by a program of this session (wip/tools/pp.py) out of the translation, with the kit's printer. -/
import Derived.Test.YtcgnnfaemjjljaaDoorQ0
import Derived.Test.YtcgnnfaemjjljaaDoorQ16
import Derived.Test.YtcgnnfaemjjljaaDoorQGimplWordArea
namespace Go.Proofs.YtcgnnfaemjjljaaDoor.Q
open Go.RowKit Go.Proofs.YtcgnnfaemjjljaaDoorW.PrintWords Go.Proofs.YtcgnnfaemjjljaaDoorW.PrintLast Go.Proofs.YtcgnnfaemjjljaaDoorW.PrintMore
attribute [local go_sem] max2_int min2_int max_two min_two max_three min_three max_four min_four
set_option linter.unusedVariables false
set_option linter.unusedSimpArgs false

/-! ### laws_FnExactWordArea: function 6 -/
def laws_FnExactWordArea.f (k : Nat) (a0 : ByteArray) : Option (Bool) := if (a0.size : Int) > 1048576 then (some true) else ((spec_WordArea.f k a0).bind fun bt174 => ((impl_WordArea.f a0).bind fun bt176 => (if bt176.1 = bt174.1 then (if bt176.2 = bt174.2 then (some true) else (some false)) else (some false))))
theorem laws_FnExactWordArea.mono : ∀ a0 k, LeO (laws_FnExactWordArea.f k a0) (laws_FnExactWordArea.f (k + 1) a0) := by
 intro a0 k
 unfold laws_FnExactWordArea.f
 repeat' first
   | (with_reducible exact spec_WordArea.mono _ _)
   | (with_reducible exact LeO.refl _)
   | (with_reducible exact LeO.none _)
   | (with_reducible refine LeO.ite ?_ ?_)
   | (with_reducible refine LeO.bind ?_ (fun _ => ?_))
   | exact spec_WordArea.mono _ _
   | exact LeO.none _
   | refine LeO.ite ?_ ?_
   | refine LeO.bind ?_ (fun _ => ?_)
set_option maxHeartbeats 8000000 in
set_option maxRecDepth 100000 in
theorem laws_FnExactWordArea.calls (k : Nat) (a0 : ByteArray) (w : World) (h : laws_FnExactWordArea.f k a0 = some true) :
  Calls Tryd.prog 6 #[.string a0] w fun e w' => e = .returned (.bool true) ∧ Below w.heap.size w w' := by
 have HB := am (Below.refl w.heap.size w)
 have H : (if (a0.size : Int) > 1048576 then (some true) else ((spec_WordArea.f k a0).bind fun bt174 => ((impl_WordArea.f a0).bind fun bt176 => (if bt176.1 = bt174.1 then (if bt176.2 = bt174.2 then (some true) else (some false)) else (some false))))) = some true := h
 clear h
 by_cases c2 : (a0.size : Int) > 1048576
 ·rw [if_pos c2] at H
  have c2b0 : decide (1048576 < (a0.size : Int)) = true := decide_eq_true c2
  have c2b1 : decide (1048576 < a0.size) = true := decide_eq_true (by omega)
  clear c2
  clear H
  go_enter Tryd.func6, Tryd.ntmps6
  go_wp2
  go_ret
  exact ⟨by first | rfl | (simp [errW_none, errW_some] <;> rfl) | (simp [*, errW_none, errW_some] <;> rfl), by repeat (first | (with_reducible first | exact HB.out | apply b1 | apply b2 | apply b3) | exact HB.out)⟩
 ·rw [if_neg c2] at H
  have c2b0 : decide (1048576 < (a0.size : Int)) = false := decide_eq_false c2
  have c2b1 : decide (1048576 < a0.size) = false := decide_eq_false (by omega)
  clear c2
  replace H := ob H
  obtain ⟨⟨t174, t175⟩, A30, H⟩ := H
  replace H : ((impl_WordArea.f a0).bind fun bt176 => (if bt176.1 = t174 then (if bt176.2 = t175 then (some true) else (some false)) else (some false))) = some true := H
  have A3 := am A30
  clear A30
  replace H := ob H
  obtain ⟨⟨t176, t177⟩, A40, H⟩ := H
  replace H : (if t176 = t174 then (if t177 = t175 then (some true) else (some false)) else (some false)) = some true := H
  have A4 := am A40
  clear A40
  by_cases c5 : t176 = t174
  ·rw [if_pos c5] at H
   have c5b0 : (t176 == t174) = true := beq_iff_eq.mpr c5
   have c5b1 : (t176 != t174) = false := bne_eq_false_iff_eq.mpr c5
   clear c5
   by_cases c6 : t177 = t175
   ·rw [if_pos c6] at H
    have c6b0 : (t177 == t175) = true := beq_iff_eq.mpr c6
    have c6b1 : (t177 != t175) = false := bne_eq_false_iff_eq.mpr c6
    clear c6
    clear H
    go_enter Tryd.func6, Tryd.ntmps6
    go_wp2_with (first | ((with_reducible refine gate_callee (f := 17) rfl ?_); refine goesL_ (some 12) rfl rfl Tryd.func17 (by kernel_rfl) rfl #[.string a0] rfl (by (try simp only [List.map_toArray, List.map_cons, List.map_nil]); first | done | rfl | (simp only [List.length_drop, List.length_take]; rfl)) ?_; (with_reducible refine (spec_WordArea.calls k a0 t174 t175 _ A3.out).mono ?_); rintro e w7 ⟨rfl, hb⟩; refine ⟨_, rfl, ?_⟩; have n0_ := am (b6 (by repeat (first | (with_reducible first | exact HB.out | apply b1 | apply b2 | apply b3) | exact HB.out)) hb); clear HB; have HB := n0_; clear n0_; (try clear hb); (try clear hb2); (try clear hk); (try clear hi)) | ((with_reducible refine gate_callee (f := 18) rfl ?_); refine goesL_ (some 17) rfl rfl Tryd.func18 (by kernel_rfl) rfl #[.string a0] rfl (by (try simp only [List.map_toArray, List.map_cons, List.map_nil]); first | done | rfl | (simp only [List.length_drop, List.length_take]; rfl)) ?_; (with_reducible refine (impl_WordArea.calls a0 t176 t177 _ A4.out).mono ?_); rintro e w8 ⟨rfl, hb⟩; refine ⟨_, rfl, ?_⟩; have n0_ := am (b6 (by repeat (first | (with_reducible first | exact HB.out | apply b1 | apply b2 | apply b3) | exact HB.out)) hb); clear HB; have HB := n0_; clear n0_; (try clear hb); (try clear hb2); (try clear hk); (try clear hi)))
    go_ret
    exact ⟨by first | rfl | (simp [errW_none, errW_some] <;> rfl) | (simp [*, errW_none, errW_some] <;> rfl), by repeat (first | (with_reducible first | exact HB.out | apply b1 | apply b2 | apply b3) | exact HB.out)⟩
   ·rw [if_neg c6] at H
    have c6b0 : (t177 == t175) = false := beq_eq_false_iff_ne.mpr c6
    have c6b1 : (t177 != t175) = true := bne_iff_ne.mpr c6
    exact absurd H (by simp)
  ·rw [if_neg c5] at H
   have c5b0 : (t176 == t174) = false := beq_eq_false_iff_ne.mpr c5
   have c5b1 : (t176 != t174) = true := bne_iff_ne.mpr c5
   exact absurd H (by simp)

end Go.Proofs.YtcgnnfaemjjljaaDoor.Q
