/- Written by a program of this session (wip/tools/pp.py) out of the translation, with the kit's printer. -/
import Derived.Test.YtcgnnfaemjjljaaDoorQ0
import Derived.Test.YtcgnnfaemjjljaaDoorQ23
import Derived.Test.YtcgnnfaemjjljaaDoorQ24
namespace Go.Proofs.YtcgnnfaemjjljaaDoor.Q
open Go.RowKit Go.Proofs.YtcgnnfaemjjljaaDoorW.PrintWords Go.Proofs.YtcgnnfaemjjljaaDoorW.PrintLast Go.Proofs.YtcgnnfaemjjljaaDoorW.PrintMore
attribute [local go_sem] max2_int min2_int max_two min_two max_three min_three max_four min_four
set_option linter.unusedVariables false
set_option linter.unusedSimpArgs false

/-! ### laws_FnExactFindFactoring: function 8 -/
def laws_FnExactFindFactoring.f (k : Nat) (a0 : ByteArray) : Option (Bool) := if (a0.size : Int) > 1048576 then (some true) else ((spec_FindFactoring.f k a0).bind fun bt207 => ((impl_FindFactoring.f k a0).bind fun bt211 => (if bt211.1 = bt207.1 then (if bt211.2.1 = bt207.2.1 then (if bt211.2.2.1 = bt207.2.2.1 then (if bt211.2.2.2 = bt207.2.2.2 then (some true) else (some false)) else (some false)) else (some false)) else (some false))))
theorem laws_FnExactFindFactoring.mono : ∀ a0 k, LeO (laws_FnExactFindFactoring.f k a0) (laws_FnExactFindFactoring.f (k + 1) a0) := by
 intro a0 k
 unfold laws_FnExactFindFactoring.f
 repeat' first
   | (with_reducible exact impl_FindFactoring.mono _ _)
   | (with_reducible exact spec_FindFactoring.mono _ _)
   | (with_reducible exact LeO.refl _)
   | (with_reducible exact LeO.none _)
   | (with_reducible refine LeO.ite ?_ ?_)
   | (with_reducible refine LeO.bind ?_ (fun _ => ?_))
   | exact impl_FindFactoring.mono _ _
   | exact spec_FindFactoring.mono _ _
   | exact LeO.none _
   | refine LeO.ite ?_ ?_
   | refine LeO.bind ?_ (fun _ => ?_)
set_option maxHeartbeats 8000000 in
set_option maxRecDepth 100000 in
theorem laws_FnExactFindFactoring.calls (k : Nat) (a0 : ByteArray) (w : World) (h : laws_FnExactFindFactoring.f k a0 = some true) :
  Calls Tryd.prog 8 #[.string a0] w fun e w' => e = .returned (.bool true) ∧ Below w.heap.size w w' := by
 have HB := am (Below.refl w.heap.size w)
 have H : (if (a0.size : Int) > 1048576 then (some true) else ((spec_FindFactoring.f k a0).bind fun bt207 => ((impl_FindFactoring.f k a0).bind fun bt211 => (if bt211.1 = bt207.1 then (if bt211.2.1 = bt207.2.1 then (if bt211.2.2.1 = bt207.2.2.1 then (if bt211.2.2.2 = bt207.2.2.2 then (some true) else (some false)) else (some false)) else (some false)) else (some false))))) = some true := h
 clear h
 by_cases c2 : (a0.size : Int) > 1048576
 ·rw [if_pos c2] at H
  have c2b0 : decide (1048576 < (a0.size : Int)) = true := decide_eq_true c2
  have c2b1 : decide (1048576 < a0.size) = true := decide_eq_true (by omega)
  clear c2
  clear H
  go_enter Tryd.func8, Tryd.ntmps8
  go_wp2
  go_ret
  exact ⟨by first | rfl | (simp [errW_none, errW_some] <;> rfl) | (simp [*, errW_none, errW_some] <;> rfl), by repeat (first | (with_reducible first | exact HB.out | apply b1 | apply b2 | apply b3) | exact HB.out)⟩
 ·rw [if_neg c2] at H
  have c2b0 : decide (1048576 < (a0.size : Int)) = false := decide_eq_false c2
  have c2b1 : decide (1048576 < a0.size) = false := decide_eq_false (by omega)
  clear c2
  replace H := ob H
  obtain ⟨⟨t207, t208, t209, t210⟩, A30, H⟩ := H
  replace H : ((impl_FindFactoring.f k a0).bind fun bt211 => (if bt211.1 = t207 then (if bt211.2.1 = t208 then (if bt211.2.2.1 = t209 then (if bt211.2.2.2 = t210 then (some true) else (some false)) else (some false)) else (some false)) else (some false))) = some true := H
  have A3 := am A30
  clear A30
  replace H := ob H
  obtain ⟨⟨t211, t212, t213, t214⟩, A40, H⟩ := H
  replace H : (if t211 = t207 then (if t212 = t208 then (if t213 = t209 then (if t214 = t210 then (some true) else (some false)) else (some false)) else (some false)) else (some false)) = some true := H
  have A4 := am A40
  clear A40
  by_cases c5 : t211 = t207
  ·rw [if_pos c5] at H
   have c5b0 : (t211 == t207) = true := beq_iff_eq.mpr c5
   have c5b1 : (t211 != t207) = false := bne_eq_false_iff_eq.mpr c5
   clear c5
   by_cases c6 : t212 = t208
   ·rw [if_pos c6] at H
    have c6b0 : (t212 == t208) = true := beq_iff_eq.mpr c6
    have c6b1 : (t212 != t208) = false := bne_eq_false_iff_eq.mpr c6
    clear c6
    by_cases c7 : t213 = t209
    ·rw [if_pos c7] at H
     have c7b0 : (t213 == t209) = true := beq_iff_eq.mpr c7
     have c7b1 : (t213 != t209) = false := bne_eq_false_iff_eq.mpr c7
     clear c7
     by_cases c8 : t214 = t210
     ·rw [if_pos c8] at H
      have c8b0 : (t214 == t210) = true := beq_iff_eq.mpr c8
      have c8b1 : (t214 != t210) = false := bne_eq_false_iff_eq.mpr c8
      clear c8
      clear H
      go_enter Tryd.func8, Tryd.ntmps8
      go_wp2_with (first | ((with_reducible refine gate_callee (f := 21) rfl ?_); refine goesL_ (some 16) rfl rfl Tryd.func21 (by kernel_rfl) rfl #[.string a0] rfl (by (try simp only [List.map_toArray, List.map_cons, List.map_nil]); first | done | rfl | (simp only [List.length_drop, List.length_take]; rfl)) ?_; (with_reducible refine (spec_FindFactoring.calls k a0 t207 t208 t209 t210 _ A3.out).mono ?_); rintro e w9 ⟨rfl, hb⟩; refine ⟨_, rfl, ?_⟩; have n0_ := am (b6 (by repeat (first | (with_reducible first | exact HB.out | apply b1 | apply b2 | apply b3) | exact HB.out)) hb); clear HB; have HB := n0_; clear n0_; (try clear hb); (try clear hb2); (try clear hk); (try clear hi)) | ((with_reducible refine gate_callee (f := 22) rfl ?_); refine goesL_ (some 23) rfl rfl Tryd.func22 (by kernel_rfl) rfl #[.string a0] rfl (by (try simp only [List.map_toArray, List.map_cons, List.map_nil]); first | done | rfl | (simp only [List.length_drop, List.length_take]; rfl)) ?_; (with_reducible refine (impl_FindFactoring.calls k a0 t211 t212 t213 t214 _ A4.out).mono ?_); rintro e w10 ⟨rfl, hb⟩; refine ⟨_, rfl, ?_⟩; have n0_ := am (b6 (by repeat (first | (with_reducible first | exact HB.out | apply b1 | apply b2 | apply b3) | exact HB.out)) hb); clear HB; have HB := n0_; clear n0_; (try clear hb); (try clear hb2); (try clear hk); (try clear hi)))
      go_ret
      exact ⟨by first | rfl | (simp [errW_none, errW_some] <;> rfl) | (simp [*, errW_none, errW_some] <;> rfl), by repeat (first | (with_reducible first | exact HB.out | apply b1 | apply b2 | apply b3) | exact HB.out)⟩
     ·rw [if_neg c8] at H
      have c8b0 : (t214 == t210) = false := beq_eq_false_iff_ne.mpr c8
      have c8b1 : (t214 != t210) = true := bne_iff_ne.mpr c8
      exact absurd H (by simp)
    ·rw [if_neg c7] at H
     have c7b0 : (t213 == t209) = false := beq_eq_false_iff_ne.mpr c7
     have c7b1 : (t213 != t209) = true := bne_iff_ne.mpr c7
     exact absurd H (by simp)
   ·rw [if_neg c6] at H
    have c6b0 : (t212 == t208) = false := beq_eq_false_iff_ne.mpr c6
    have c6b1 : (t212 != t208) = true := bne_iff_ne.mpr c6
    exact absurd H (by simp)
  ·rw [if_neg c5] at H
   have c5b0 : (t211 == t207) = false := beq_eq_false_iff_ne.mpr c5
   have c5b1 : (t211 != t207) = true := bne_iff_ne.mpr c5
   exact absurd H (by simp)

end Go.Proofs.YtcgnnfaemjjljaaDoor.Q
