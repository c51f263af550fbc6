/- Written by a program of this session (wip/tools/pp.py) out of the translation, with the kit's printer. -/
import Derived.Test.YtcgnnfaemjjljaaDoorQ0
import Derived.Test.YtcgnnfaemjjljaaDoorQ7
import Derived.Test.YtcgnnfaemjjljaaDoorQ8
namespace Go.Proofs.YtcgnnfaemjjljaaDoor.Q
open Go.RowKit Go.Proofs.YtcgnnfaemjjljaaDoorW.PrintWords Go.Proofs.YtcgnnfaemjjljaaDoorW.PrintLast Go.Proofs.YtcgnnfaemjjljaaDoorW.PrintMore
attribute [local go_sem] max2_int min2_int max_two min_two max_three min_three max_four min_four
set_option linter.unusedVariables false
set_option linter.unusedSimpArgs false

/-! ### spec_l24Factors: function 40 -/
def spec_l24Factors.j0 : Nat → ByteArray → Int → Int → Int → Int → Bool → Option (Bool)
 | 0, _, _, _, _, _, _ => none
 | k + 1, x0, x1, x2, x3, x9, x60 => if x60 = true then (some false) else (if 0 ≤ x1 then (if x1 ≤ (x0.size : Int) then (if (x0.extract (x1 : Int).toNat x0.size).size + (x0.extract 0 (x1 : Int).toNat).size ≤ 9223372036854775807 then (if 0 ≤ (wrap64 (x9 / 2)) then (if (wrap64 (x9 / 2)) ≤ (((x0.extract (x1 : Int).toNat x0.size) ++ (x0.extract 0 (x1 : Int).toNat)).size : Int) then (if 0 ≤ x2 then (if x2 ≤ (((x0.extract (x1 : Int).toNat x0.size) ++ (x0.extract 0 (x1 : Int).toNat)).size : Int) then ((spec_l23Back.f k (((x0.extract (x1 : Int).toNat x0.size) ++ (x0.extract 0 (x1 : Int).toNat)).extract 0 (x2 : Int).toNat)).bind fun t136 => (if x2 ≤ (wrap64 (x2 + x3)) then (if (wrap64 (x2 + x3)) ≤ (((x0.extract (x1 : Int).toNat x0.size) ++ (x0.extract 0 (x1 : Int).toNat)).size : Int) then ((spec_l23Back.f k (((x0.extract (x1 : Int).toNat x0.size) ++ (x0.extract 0 (x1 : Int).toNat)).extract (x2 : Int).toNat ((wrap64 (x2 + x3)) : Int).toNat)).bind fun t137 => (if t136.size + t137.size ≤ 9223372036854775807 then (if 0 ≤ (wrap64 (x2 + x3)) then (if (wrap64 (x2 + x3)) ≤ (wrap64 (x9 / 2)) then ((spec_l23Back.f k (((x0.extract (x1 : Int).toNat x0.size) ++ (x0.extract 0 (x1 : Int).toNat)).extract ((wrap64 (x2 + x3)) : Int).toNat ((wrap64 (x9 / 2)) : Int).toNat)).bind fun t138 => (if (t136 ++ t137).size + t138.size ≤ 9223372036854775807 then (some ((((x0.extract (x1 : Int).toNat x0.size) ++ (x0.extract 0 (x1 : Int).toNat)).extract ((wrap64 (x9 / 2)) : Int).toNat ((x0.extract (x1 : Int).toNat x0.size) ++ (x0.extract 0 (x1 : Int).toNat)).size).toList == ((t136 ++ t137) ++ t138).toList)) else (none))) else (none)) else (none)) else (none))) else (none)) else (none))) else (none)) else (none)) else (none)) else (none)) else (none)) else (none)) else (none))
def spec_l24Factors.f (k : Nat) (a0 : ByteArray) (a1 : Int) (a2 : Int) (a3 : Int) : Option (Bool) := (spec_l01In.f a1 0 (wrap64 ((a0.size : Int) - 1))).bind fun t135 => (if t135 = true then (if a2 < 0 then (spec_l24Factors.j0 k a0 a1 a2 a3 (a0.size : Int) true) else (if a3 < 0 then (spec_l24Factors.j0 k a0 a1 a2 a3 (a0.size : Int) true) else (if (wrap64 ((wrap64 ((wrap64 ((a0.size : Int) / 2)) - a2)) - a3)) < 0 then (spec_l24Factors.j0 k a0 a1 a2 a3 (a0.size : Int) true) else (if a2 = 0 then (if a3 = 0 then (spec_l24Factors.j0 k a0 a1 a2 a3 (a0.size : Int) true) else (if (wrap64 ((wrap64 ((wrap64 ((a0.size : Int) / 2)) - a2)) - a3)) = 0 then (spec_l24Factors.j0 k a0 a1 a2 a3 (a0.size : Int) true) else (spec_l24Factors.j0 k a0 a1 a2 a3 (a0.size : Int) false))) else (if a3 = 0 then (spec_l24Factors.j0 k a0 a1 a2 a3 (a0.size : Int) ((wrap64 ((wrap64 ((wrap64 ((a0.size : Int) / 2)) - a2)) - a3)) == 0)) else (spec_l24Factors.j0 k a0 a1 a2 a3 (a0.size : Int) false)))))) else (spec_l24Factors.j0 k a0 a1 a2 a3 (a0.size : Int) true))
theorem spec_l24Factors.mono_l : ∀ k, (∀ y0 y1 y2 y3 y4 y5, LeO (spec_l24Factors.j0 k y0 y1 y2 y3 y4 y5) (spec_l24Factors.j0 (k + 1) y0 y1 y2 y3 y4 y5))
 | 0 => fun _ _ _ _ _ _ r h => by simp [spec_l24Factors.j0] at h
 | k + 1 => by
  have ih0 := spec_l24Factors.mono_l k
  ·intro y0 y1 y2 y3 y4 y5
   unfold spec_l24Factors.j0
   repeat' first
   | (with_reducible exact ih0 _ _ _ _ _ _)
   | (with_reducible exact spec_l23Back.mono _ _)
   | (with_reducible exact LeO.refl _)
   | (with_reducible exact LeO.none _)
   | (with_reducible refine LeO.ite ?_ ?_)
   | (with_reducible refine LeO.bind ?_ (fun _ => ?_))
   | exact ih0 _ _ _ _ _ _
   | exact spec_l23Back.mono _ _
   | exact LeO.none _
   | refine LeO.ite ?_ ?_
   | refine LeO.bind ?_ (fun _ => ?_)
theorem spec_l24Factors.mono : ∀ a0 a1 a2 a3 k, LeO (spec_l24Factors.f k a0 a1 a2 a3) (spec_l24Factors.f (k + 1) a0 a1 a2 a3) := by
 intro a0 a1 a2 a3 k
 have ih0 := spec_l24Factors.mono_l k
 unfold spec_l24Factors.f
 repeat' first
   | (with_reducible exact ih0 _ _ _ _ _ _)
   | (with_reducible exact spec_l23Back.mono _ _)
   | (with_reducible exact LeO.refl _)
   | (with_reducible exact LeO.none _)
   | (with_reducible refine LeO.ite ?_ ?_)
   | (with_reducible refine LeO.bind ?_ (fun _ => ?_))
   | exact ih0 _ _ _ _ _ _
   | exact spec_l23Back.mono _ _
   | exact LeO.none _
   | refine LeO.ite ?_ ?_
   | refine LeO.bind ?_ (fun _ => ?_)
def spec_l24Factors.T5 : Bool × List (List Nat × List Nat) := (true, [([], []), ([], []), ([0, 1], [0, 1]), ([], []), ([], []), ([3, 4], [3, 4]), ([2, 5], [2, 5]), ([6, 0, 1, 2, 3, 4, 5, 6], [6])])
def spec_l24Factors.B5 : List Nat := [0, 0, 3, 0, 0, 24, 63, 127]
theorem spec_l24Factors.tab5 : rtab .any (opsOf Tryd.f40 5) = spec_l24Factors.T5 := by kernel_rfl
theorem spec_l24Factors.bits5 : waitsOk spec_l24Factors.T5.2 spec_l24Factors.B5 = true := by kernel_rfl
def spec_l24Factors.T6 : Bool × List (List Nat × List Nat) := (true, [([], []), ([], []), ([1], [1]), ([0, 2], [0, 2]), ([], []), ([], []), ([4, 5], [4, 5]), ([6], [6]), ([], []), ([], []), ([], []), ([], []), ([10, 11], [10, 11]), ([8, 9, 12], [8, 9, 12]), ([13, 7], [13]), ([7, 14], [7, 14]), ([], []), ([], []), ([], []), ([17, 18], [17, 18]), ([], []), ([20], [20]), ([16, 19, 21], [16, 19, 21]), ([22, 14], [22]), ([15, 23], [15, 23]), ([3, 24], [3, 24]), ([25, 23, 0, 1, 2, 3, 4, 5, 6, 7, 8, 9, 10, 11, 12, 13, 14, 15, 16, 17, 18, 19, 20, 21, 22, 23, 24, 25], [25])])
def spec_l24Factors.B6 : List Nat := [0, 0, 2, 7, 0, 0, 48, 112, 0, 0, 0, 0, 3072, 7936, 16368, 32752, 0, 0, 0, 393216, 0, 1048576, 4128768, 8355824, 16777200, 33554431, 67108863]
theorem spec_l24Factors.tab6 : rtab .any (opsOf Tryd.f40 6) = spec_l24Factors.T6 := by kernel_rfl
theorem spec_l24Factors.bits6 : waitsOk spec_l24Factors.T6.2 spec_l24Factors.B6 = true := by kernel_rfl
set_option maxHeartbeats 8000000 in
set_option maxRecDepth 100000 in
theorem spec_l24Factors.calls (k : Nat) (a0 : ByteArray) (a1 : Int) (a2 : Int) (a3 : Int) (r : Bool) (w : World) (h : spec_l24Factors.f k a0 a1 a2 a3 = some r) :
  Calls Tryd.prog 40 #[.string a0, .int .i64 a1, .int .i64 a2, .int .i64 a3] w fun e w' => e = .returned (.bool r) ∧ Below w.heap.size w w' := by
 have HB := am (Below.refl w.heap.size w)
 have H : ((spec_l01In.f a1 0 (wrap64 ((a0.size : Int) - 1))).bind fun t135 => (if t135 = true then (if a2 < 0 then (spec_l24Factors.j0 k a0 a1 a2 a3 (a0.size : Int) true) else (if a3 < 0 then (spec_l24Factors.j0 k a0 a1 a2 a3 (a0.size : Int) true) else (if (wrap64 ((wrap64 ((wrap64 ((a0.size : Int) / 2)) - a2)) - a3)) < 0 then (spec_l24Factors.j0 k a0 a1 a2 a3 (a0.size : Int) true) else (if a2 = 0 then (if a3 = 0 then (spec_l24Factors.j0 k a0 a1 a2 a3 (a0.size : Int) true) else (if (wrap64 ((wrap64 ((wrap64 ((a0.size : Int) / 2)) - a2)) - a3)) = 0 then (spec_l24Factors.j0 k a0 a1 a2 a3 (a0.size : Int) true) else (spec_l24Factors.j0 k a0 a1 a2 a3 (a0.size : Int) false))) else (if a3 = 0 then (spec_l24Factors.j0 k a0 a1 a2 a3 (a0.size : Int) ((wrap64 ((wrap64 ((wrap64 ((a0.size : Int) / 2)) - a2)) - a3)) == 0)) else (spec_l24Factors.j0 k a0 a1 a2 a3 (a0.size : Int) false)))))) else (spec_l24Factors.j0 k a0 a1 a2 a3 (a0.size : Int) true))) = some r := h
 clear h
 have HC5 := am H
 clear H
 go_enter Tryd.func40, Tryd.ntmps40
 go_upto_region 3 with (fail)
 go_cut [60] (fun v60 wc => ∃ (kq : Nat) (x60_4 : Bool), v60 = .bool x60_4 ∧ Aside0 (spec_l24Factors.j0 kq a0 a1 a2 a3 (a0.size : Int) x60_4 = some r) ∧ Aside0 (kq ≤ k) ∧ Aside0 (Below w.heap.size w wc))
 case first =>
  have H := HC5.out
  clear HC5
  replace H := ob H
  obtain ⟨t135, A60, H⟩ := H
  (try dsimp only at H)
  have A6 := am A60
  clear A60
  by_cases c7 : t135 = true
  rotate_left
  ·replace c7 := ef c7
   subst c7
   have H1 : (spec_l24Factors.j0 k a0 a1 a2 a3 (a0.size : Int) true) = some r := by first | (rw [if_neg (show ¬ (false = true) by decide)] at H; exact H) | rfl
   clear H
   have H := H1
   clear H1
   have H' := am H
   clear H
   go_wp2_with (first | ((with_reducible refine gate_callee (f := 29) rfl ?_); refine goesL_ (some 23) rfl rfl Tryd.func29 (by kernel_rfl) rfl #[.int .i64 a1, .int .i64 0, .int .i64 (wrap64 ((a0.size : Int) - 1))] rfl zL ?_; (with_reducible refine (spec_l01In.calls a1 0 (wrap64 ((a0.size : Int) - 1)) false _ A6.out).mono ?_); rintro e w' ⟨rfl, ⟨nd, rfl⟩⟩; refine ⟨_, rfl, ?_⟩))
   go_meet
   case rel => exact ⟨_, (true), zS, H', ⟨by first | omega | exact Nat.le_refl _⟩, ⟨zB⟩⟩
  subst c7
  have H1 : (if a2 < 0 then (spec_l24Factors.j0 k a0 a1 a2 a3 (a0.size : Int) true) else (if a3 < 0 then (spec_l24Factors.j0 k a0 a1 a2 a3 (a0.size : Int) true) else (if (wrap64 ((wrap64 ((wrap64 ((a0.size : Int) / 2)) - a2)) - a3)) < 0 then (spec_l24Factors.j0 k a0 a1 a2 a3 (a0.size : Int) true) else (if a2 = 0 then (if a3 = 0 then (spec_l24Factors.j0 k a0 a1 a2 a3 (a0.size : Int) true) else (if (wrap64 ((wrap64 ((wrap64 ((a0.size : Int) / 2)) - a2)) - a3)) = 0 then (spec_l24Factors.j0 k a0 a1 a2 a3 (a0.size : Int) true) else (spec_l24Factors.j0 k a0 a1 a2 a3 (a0.size : Int) false))) else (if a3 = 0 then (spec_l24Factors.j0 k a0 a1 a2 a3 (a0.size : Int) ((wrap64 ((wrap64 ((wrap64 ((a0.size : Int) / 2)) - a2)) - a3)) == 0)) else (spec_l24Factors.j0 k a0 a1 a2 a3 (a0.size : Int) false)))))) = some r := by first | (rw [if_pos rfl] at H; exact H) | rfl
  clear H
  have H := H1
  clear H1
  by_cases c8 : a2 < 0
  ·rw [if_pos c8] at H
   have c8b0 : decide (a2 < 0) = true := decide_eq_true c8
   clear c8
   (first | rw [c8b0] | (simp only [i64_w, i32_w]; rw [c8b0]) | skip)
   have H' := am H
   clear H
   go_wp2_with (first | ((with_reducible refine gate_callee (f := 29) rfl ?_); refine goesL_ (some 23) rfl rfl Tryd.func29 (by kernel_rfl) rfl #[.int .i64 a1, .int .i64 0, .int .i64 (wrap64 ((a0.size : Int) - 1))] rfl zL ?_; (with_reducible refine (spec_l01In.calls a1 0 (wrap64 ((a0.size : Int) - 1)) true _ A6.out).mono ?_); rintro e w' ⟨rfl, ⟨nd, rfl⟩⟩; refine ⟨_, rfl, ?_⟩))
   go_meet
   case rel => exact ⟨_, (true), zS, H', ⟨by first | omega | exact Nat.le_refl _⟩, ⟨zB⟩⟩
  rw [if_neg c8] at H
  have c8b0 : decide (a2 < 0) = false := decide_eq_false c8
  clear c8
  (first | rw [c8b0] | (simp only [i64_w, i32_w]; rw [c8b0]) | skip)
  by_cases c9 : a3 < 0
  ·rw [if_pos c9] at H
   have c9b0 : decide (a3 < 0) = true := decide_eq_true c9
   clear c9
   have H' := am H
   clear H
   go_wp2_with (first | ((with_reducible refine gate_callee (f := 29) rfl ?_); refine goesL_ (some 23) rfl rfl Tryd.func29 (by kernel_rfl) rfl #[.int .i64 a1, .int .i64 0, .int .i64 (wrap64 ((a0.size : Int) - 1))] rfl zL ?_; (with_reducible refine (spec_l01In.calls a1 0 (wrap64 ((a0.size : Int) - 1)) true _ A6.out).mono ?_); rintro e w' ⟨rfl, ⟨nd, rfl⟩⟩; refine ⟨_, rfl, ?_⟩))
   go_meet
   case rel => exact ⟨_, (true), zS, H', ⟨by first | omega | exact Nat.le_refl _⟩, ⟨zB⟩⟩
  rw [if_neg c9] at H
  have c9b0 : decide (a3 < 0) = false := decide_eq_false c9
  clear c9
  by_cases c10 : (wrap64 ((wrap64 ((wrap64 ((a0.size : Int) / 2)) - a2)) - a3)) < 0
  ·rw [if_pos c10] at H
   have c10b0 : decide ((wrap64 ((wrap64 ((wrap64 ((a0.size : Int) / 2)) - a2)) - a3)) < 0) = true := decide_eq_true c10
   clear c10
   have H' := am H
   clear H
   go_wp2_with (first | ((with_reducible refine gate_callee (f := 29) rfl ?_); refine goesL_ (some 23) rfl rfl Tryd.func29 (by kernel_rfl) rfl #[.int .i64 a1, .int .i64 0, .int .i64 (wrap64 ((a0.size : Int) - 1))] rfl zL ?_; (with_reducible refine (spec_l01In.calls a1 0 (wrap64 ((a0.size : Int) - 1)) true _ A6.out).mono ?_); rintro e w' ⟨rfl, ⟨nd, rfl⟩⟩; refine ⟨_, rfl, ?_⟩))
   go_meet
   case rel => exact ⟨_, (true), zS, H', ⟨by first | omega | exact Nat.le_refl _⟩, ⟨zB⟩⟩
  rw [if_neg c10] at H
  have c10b0 : decide ((wrap64 ((wrap64 ((wrap64 ((a0.size : Int) / 2)) - a2)) - a3)) < 0) = false := decide_eq_false c10
  clear c10
  by_cases c11 : a2 = 0
  rotate_left
  ·rw [if_neg c11] at H
   have c11b0 : (a2 == 0) = false := beq_eq_false_iff_ne.mpr c11
   have c11b1 : (a2 != 0) = true := bne_iff_ne.mpr c11
   by_cases c14 : a3 = 0
   rotate_left
   ·rw [if_neg c14] at H
    have c14b0 : (a3 == 0) = false := beq_eq_false_iff_ne.mpr c14
    have c14b1 : (a3 != 0) = true := bne_iff_ne.mpr c14
    have H' := am H
    clear H
    go_wp2_with (first | ((with_reducible refine gate_callee (f := 29) rfl ?_); refine goesL_ (some 23) rfl rfl Tryd.func29 (by kernel_rfl) rfl #[.int .i64 a1, .int .i64 0, .int .i64 (wrap64 ((a0.size : Int) - 1))] rfl zL ?_; (with_reducible refine (spec_l01In.calls a1 0 (wrap64 ((a0.size : Int) - 1)) true _ A6.out).mono ?_); rintro e w' ⟨rfl, ⟨nd, rfl⟩⟩; refine ⟨_, rfl, ?_⟩))
    go_meet
    case rel => exact ⟨_, (false), zS, H', ⟨by first | omega | exact Nat.le_refl _⟩, ⟨zB⟩⟩
   rw [if_pos c14] at H
   have c14b0 : (a3 == 0) = true := beq_iff_eq.mpr c14
   have c14b1 : (a3 != 0) = false := bne_eq_false_iff_eq.mpr c14
   clear c14
   have H' := am H
   clear H
   go_wp2_with (first | ((with_reducible refine gate_callee (f := 29) rfl ?_); refine goesL_ (some 23) rfl rfl Tryd.func29 (by kernel_rfl) rfl #[.int .i64 a1, .int .i64 0, .int .i64 (wrap64 ((a0.size : Int) - 1))] rfl zL ?_; (with_reducible refine (spec_l01In.calls a1 0 (wrap64 ((a0.size : Int) - 1)) true _ A6.out).mono ?_); rintro e w' ⟨rfl, ⟨nd, rfl⟩⟩; refine ⟨_, rfl, ?_⟩))
   go_meet
   case rel => exact ⟨_, (((wrap64 ((wrap64 ((wrap64 ((a0.size : Int) / 2)) - a2)) - a3)) == 0)), zS, H', ⟨by first | omega | exact Nat.le_refl _⟩, ⟨zB⟩⟩
  rw [if_pos c11] at H
  have c11b0 : (a2 == 0) = true := beq_iff_eq.mpr c11
  have c11b1 : (a2 != 0) = false := bne_eq_false_iff_eq.mpr c11
  clear c11
  by_cases c12 : a3 = 0
  ·rw [if_pos c12] at H
   have c12b0 : (a3 == 0) = true := beq_iff_eq.mpr c12
   have c12b1 : (a3 != 0) = false := bne_eq_false_iff_eq.mpr c12
   clear c12
   have H' := am H
   clear H
   go_wp2_with (first | ((with_reducible refine gate_callee (f := 29) rfl ?_); refine goesL_ (some 23) rfl rfl Tryd.func29 (by kernel_rfl) rfl #[.int .i64 a1, .int .i64 0, .int .i64 (wrap64 ((a0.size : Int) - 1))] rfl zL ?_; (with_reducible refine (spec_l01In.calls a1 0 (wrap64 ((a0.size : Int) - 1)) true _ A6.out).mono ?_); rintro e w' ⟨rfl, ⟨nd, rfl⟩⟩; refine ⟨_, rfl, ?_⟩))
   go_meet
   case rel => exact ⟨_, (true), zS, H', ⟨by first | omega | exact Nat.le_refl _⟩, ⟨zB⟩⟩
  rw [if_neg c12] at H
  have c12b0 : (a3 == 0) = false := beq_eq_false_iff_ne.mpr c12
  have c12b1 : (a3 != 0) = true := bne_iff_ne.mpr c12
  by_cases c13 : (wrap64 ((wrap64 ((wrap64 ((a0.size : Int) / 2)) - a2)) - a3)) = 0
  ·rw [if_pos c13] at H
   have c13b0 : ((wrap64 ((wrap64 ((wrap64 ((a0.size : Int) / 2)) - a2)) - a3)) == 0) = true := beq_iff_eq.mpr c13
   have c13b1 : ((wrap64 ((wrap64 ((wrap64 ((a0.size : Int) / 2)) - a2)) - a3)) != 0) = false := bne_eq_false_iff_eq.mpr c13
   clear c13
   have H' := am H
   clear H
   go_wp2_with (first | ((with_reducible refine gate_callee (f := 29) rfl ?_); refine goesL_ (some 23) rfl rfl Tryd.func29 (by kernel_rfl) rfl #[.int .i64 a1, .int .i64 0, .int .i64 (wrap64 ((a0.size : Int) - 1))] rfl zL ?_; (with_reducible refine (spec_l01In.calls a1 0 (wrap64 ((a0.size : Int) - 1)) true _ A6.out).mono ?_); rintro e w' ⟨rfl, ⟨nd, rfl⟩⟩; refine ⟨_, rfl, ?_⟩))
   go_meet
   case rel => exact ⟨_, (true), zS, H', ⟨by first | omega | exact Nat.le_refl _⟩, ⟨zB⟩⟩
  rw [if_neg c13] at H
  have c13b0 : ((wrap64 ((wrap64 ((wrap64 ((a0.size : Int) / 2)) - a2)) - a3)) == 0) = false := beq_eq_false_iff_ne.mpr c13
  have c13b1 : ((wrap64 ((wrap64 ((wrap64 ((a0.size : Int) / 2)) - a2)) - a3)) != 0) = true := bne_iff_ne.mpr c13
  have H' := am H
  clear H
  go_wp2_with (first | ((with_reducible refine gate_callee (f := 29) rfl ?_); refine goesL_ (some 23) rfl rfl Tryd.func29 (by kernel_rfl) rfl #[.int .i64 a1, .int .i64 0, .int .i64 (wrap64 ((a0.size : Int) - 1))] rfl zL ?_; (with_reducible refine (spec_l01In.calls a1 0 (wrap64 ((a0.size : Int) - 1)) true _ A6.out).mono ?_); rintro e w' ⟨rfl, ⟨nd, rfl⟩⟩; refine ⟨_, rfl, ?_⟩))
  go_meet
  case rel => exact ⟨_, (false), zS, H', ⟨by first | omega | exact Nat.le_refl _⟩, ⟨zB⟩⟩
 clear HC5
 try clear c1
 try clear c2
 try clear p2
 try clear c4
 try clear p6
 try clear c7
 try clear c8
 try clear c8b0
 try clear c9
 try clear c9b0
 try clear c10
 try clear c10b0
 try clear c11
 try clear c11b0
 try clear c11b1
 try clear c12
 try clear c12b0
 try clear c12b1
 try clear c13
 try clear c13b0
 try clear c13b1
 try clear c14
 try clear c14b0
 try clear c14b1
 obtain ⟨kq, x60_4, rfl, HA, HJ4, HB⟩ := hcut
 cases kq with
 | zero => exact absurd HA.out (by simp [spec_l24Factors.j0])
 | succ kj4 =>
  have H := HA.out
  clear HA
  simp only [spec_l24Factors.j0] at H
  by_cases c15 : x60_4 = true
  ·subst c15
   have H1 : (some false) = some r := by first | (rw [if_pos rfl] at H; exact H) | rfl
   clear H
   have H := H1
   clear H1
   obtain rfl := oi H
   go_wp2
   go_ret
   exact ⟨zE, zB⟩
  replace c15 := ef c15
  subst c15
  have H1 : (if 0 ≤ a1 then (if a1 ≤ (a0.size : Int) then (if (a0.extract (a1 : Int).toNat a0.size).size + (a0.extract 0 (a1 : Int).toNat).size ≤ 9223372036854775807 then (if 0 ≤ (wrap64 ((a0.size : Int) / 2)) then (if (wrap64 ((a0.size : Int) / 2)) ≤ (((a0.extract (a1 : Int).toNat a0.size) ++ (a0.extract 0 (a1 : Int).toNat)).size : Int) then (if 0 ≤ a2 then (if a2 ≤ (((a0.extract (a1 : Int).toNat a0.size) ++ (a0.extract 0 (a1 : Int).toNat)).size : Int) then ((spec_l23Back.f kj4 (((a0.extract (a1 : Int).toNat a0.size) ++ (a0.extract 0 (a1 : Int).toNat)).extract 0 (a2 : Int).toNat)).bind fun t136 => (if a2 ≤ (wrap64 (a2 + a3)) then (if (wrap64 (a2 + a3)) ≤ (((a0.extract (a1 : Int).toNat a0.size) ++ (a0.extract 0 (a1 : Int).toNat)).size : Int) then ((spec_l23Back.f kj4 (((a0.extract (a1 : Int).toNat a0.size) ++ (a0.extract 0 (a1 : Int).toNat)).extract (a2 : Int).toNat ((wrap64 (a2 + a3)) : Int).toNat)).bind fun t137 => (if t136.size + t137.size ≤ 9223372036854775807 then (if 0 ≤ (wrap64 (a2 + a3)) then (if (wrap64 (a2 + a3)) ≤ (wrap64 ((a0.size : Int) / 2)) then ((spec_l23Back.f kj4 (((a0.extract (a1 : Int).toNat a0.size) ++ (a0.extract 0 (a1 : Int).toNat)).extract ((wrap64 (a2 + a3)) : Int).toNat ((wrap64 ((a0.size : Int) / 2)) : Int).toNat)).bind fun t138 => (if (t136 ++ t137).size + t138.size ≤ 9223372036854775807 then (some ((((a0.extract (a1 : Int).toNat a0.size) ++ (a0.extract 0 (a1 : Int).toNat)).extract ((wrap64 ((a0.size : Int) / 2)) : Int).toNat ((a0.extract (a1 : Int).toNat a0.size) ++ (a0.extract 0 (a1 : Int).toNat)).size).toList == ((t136 ++ t137) ++ t138).toList)) else (none))) else (none)) else (none)) else (none))) else (none)) else (none))) else (none)) else (none)) else (none)) else (none)) else (none)) else (none)) else (none)) = some r := by first | (rw [if_neg (show ¬ (false = true) by decide)] at H; exact H) | rfl
  clear H
  have H := H1
  clear H1
  by_cases c16 : 0 ≤ a1
  rotate_left
  ·rw [if_neg c16] at H
   exact absurd H (by simp)
  rw [if_pos c16] at H
  have c16b0 := eq_true c16
  have c16b1 : decide (0 ≤ a1) = true := decide_eq_true c16
  clear c16
  by_cases c17 : a1 ≤ (a0.size : Int)
  rotate_left
  ·rw [if_neg c17] at H
   exact absurd H (by simp)
  rw [if_pos c17] at H
  have c17b0 := eq_true c17
  have c17b1 : decide (a1 ≤ (a0.size : Int)) = true := decide_eq_true c17
  clear c17
  have c18b0 := eq_true (zD : 0 ≤ a1)
  have c19b0 := eq_true (zD : a1 ≤ (a0.size : Int))
  by_cases c20 : (a0.extract (a1 : Int).toNat a0.size).size + (a0.extract 0 (a1 : Int).toNat).size ≤ 9223372036854775807
  rotate_left
  ·rw [if_neg c20] at H
   exact absurd H (by simp)
  rw [if_pos c20] at H
  have c20b0 := eq_true c20
  have c20b1 : decide ((a0.extract (a1 : Int).toNat a0.size).size + (a0.extract 0 (a1 : Int).toNat).size ≤ 9223372036854775807) = true := decide_eq_true c20
  try have c20b2 : (9223372036854775807 < (a0.extract (a1 : Int).toNat a0.size).size + (a0.extract 0 (a1 : Int).toNat).size) = False := eq_false (Nat.not_lt.2 c20)
  try have c20b9 : (9223372036854775807 < a0.size) = False := eq_false (by have h9_ := c20; simp only [ByteArray.size_extract] at h9_; omega)
  obtain ⟨ji21, hji21⟩ : ∃ j_ : Int, (wrap64 ((a0.size : Int) / 2)) = j_ := ⟨_, rfl⟩
  replace H : (if 0 ≤ (ji21) then (if (ji21) ≤ (((a0.extract (a1 : Int).toNat a0.size) ++ (a0.extract 0 (a1 : Int).toNat)).size : Int) then (if 0 ≤ a2 then (if a2 ≤ (((a0.extract (a1 : Int).toNat a0.size) ++ (a0.extract 0 (a1 : Int).toNat)).size : Int) then ((spec_l23Back.f kj4 (((a0.extract (a1 : Int).toNat a0.size) ++ (a0.extract 0 (a1 : Int).toNat)).extract 0 (a2 : Int).toNat)).bind fun t136 => (if a2 ≤ (wrap64 (a2 + a3)) then (if (wrap64 (a2 + a3)) ≤ (((a0.extract (a1 : Int).toNat a0.size) ++ (a0.extract 0 (a1 : Int).toNat)).size : Int) then ((spec_l23Back.f kj4 (((a0.extract (a1 : Int).toNat a0.size) ++ (a0.extract 0 (a1 : Int).toNat)).extract (a2 : Int).toNat ((wrap64 (a2 + a3)) : Int).toNat)).bind fun t137 => (if t136.size + t137.size ≤ 9223372036854775807 then (if 0 ≤ (wrap64 (a2 + a3)) then (if (wrap64 (a2 + a3)) ≤ (ji21) then ((spec_l23Back.f kj4 (((a0.extract (a1 : Int).toNat a0.size) ++ (a0.extract 0 (a1 : Int).toNat)).extract ((wrap64 (a2 + a3)) : Int).toNat ((ji21) : Int).toNat)).bind fun t138 => (if (t136 ++ t137).size + t138.size ≤ 9223372036854775807 then (some ((((a0.extract (a1 : Int).toNat a0.size) ++ (a0.extract 0 (a1 : Int).toNat)).extract ((ji21) : Int).toNat ((a0.extract (a1 : Int).toNat a0.size) ++ (a0.extract 0 (a1 : Int).toNat)).size).toList == ((t136 ++ t137) ++ t138).toList)) else (none))) else (none)) else (none)) else (none))) else (none)) else (none))) else (none)) else (none)) else (none)) else (none)) = some r := by first | (rw [hji21] at H; exact H) | (simp only [hji21] at H ⊢; exact H)
  have hji21w : (IntKind.i64.wrap ((a0.size : Int) / 2)) = ji21 := (i64_w _).trans hji21
  by_cases c22 : 0 ≤ (ji21)
  rotate_left
  ·rw [if_neg c22] at H
   exact absurd H (by simp)
  rw [if_pos c22] at H
  have c22b0 := eq_true c22
  have c22b1 : decide (0 ≤ (ji21)) = true := decide_eq_true c22
  clear c22
  by_cases c23 : (ji21) ≤ (((a0.extract (a1 : Int).toNat a0.size) ++ (a0.extract 0 (a1 : Int).toNat)).size : Int)
  rotate_left
  ·rw [if_neg c23] at H
   exact absurd H (by simp)
  rw [if_pos c23] at H
  have c23b0 := eq_true c23
  have c23b1 : decide ((ji21) ≤ (((a0.extract (a1 : Int).toNat a0.size) ++ (a0.extract 0 (a1 : Int).toNat)).size : Int)) = true := decide_eq_true c23
  try have c23b9 : ((ji21) ≤ (a0.size : Int)) = True := eq_true (by have h9_ := c23; simp only [ByteArray.size_append, ByteArray.size_extract] at h9_; omega)
  try (have c23b7 : ((a0.extract (a1 : Int).toNat a0.size) ++ (a0.extract 0 (a1 : Int).toNat)).size = a0.size := (by simp only [ByteArray.size_append, ByteArray.size_extract]; omega); simp at c23b7)
  by_cases c24 : 0 ≤ a2
  rotate_left
  ·rw [if_neg c24] at H
   exact absurd H (by simp)
  rw [if_pos c24] at H
  have c24b0 := eq_true c24
  have c24b1 : decide (0 ≤ a2) = true := decide_eq_true c24
  clear c24
  by_cases c25 : a2 ≤ (((a0.extract (a1 : Int).toNat a0.size) ++ (a0.extract 0 (a1 : Int).toNat)).size : Int)
  rotate_left
  ·rw [if_neg c25] at H
   exact absurd H (by simp)
  rw [if_pos c25] at H
  have c25b0 := eq_true c25
  have c25b1 : decide (a2 ≤ (((a0.extract (a1 : Int).toNat a0.size) ++ (a0.extract 0 (a1 : Int).toNat)).size : Int)) = true := decide_eq_true c25
  try have c25b9 : (a2 ≤ (a0.size : Int)) = True := eq_true (by have h9_ := c25; simp only [ByteArray.size_append, ByteArray.size_extract] at h9_; omega)
  try (have c25b7 : ((a0.extract (a1 : Int).toNat a0.size) ++ (a0.extract 0 (a1 : Int).toNat)).size = a0.size := (by simp only [ByteArray.size_append, ByteArray.size_extract]; omega); simp at c25b7)
  replace H := ob H
  obtain ⟨t136, A260, H⟩ := H
  (try dsimp only at H)
  have A26 := am A260
  clear A260
  have c27b0 := eq_true (zD : 0 ≤ a2)
  by_cases c28 : a2 ≤ (wrap64 (a2 + a3))
  rotate_left
  ·rw [if_neg c28] at H
   exact absurd H (by simp)
  rw [if_pos c28] at H
  have c28b0 := eq_true c28
  have c28b1 : decide (a2 ≤ (wrap64 (a2 + a3))) = true := decide_eq_true c28
  by_cases c29 : (wrap64 (a2 + a3)) ≤ (((a0.extract (a1 : Int).toNat a0.size) ++ (a0.extract 0 (a1 : Int).toNat)).size : Int)
  rotate_left
  ·rw [if_neg c29] at H
   exact absurd H (by simp)
  rw [if_pos c29] at H
  have c29b0 := eq_true c29
  have c29b1 : decide ((wrap64 (a2 + a3)) ≤ (((a0.extract (a1 : Int).toNat a0.size) ++ (a0.extract 0 (a1 : Int).toNat)).size : Int)) = true := decide_eq_true c29
  try have c29b9 : ((wrap64 (a2 + a3)) ≤ (a0.size : Int)) = True := eq_true (by have h9_ := c29; simp only [ByteArray.size_append, ByteArray.size_extract] at h9_; omega)
  try (have c29b7 : ((a0.extract (a1 : Int).toNat a0.size) ++ (a0.extract 0 (a1 : Int).toNat)).size = a0.size := (by simp only [ByteArray.size_append, ByteArray.size_extract]; omega); simp at c29b7)
  replace H := ob H
  obtain ⟨t137, A300, H⟩ := H
  (try dsimp only at H)
  have A30 := am A300
  clear A300
  by_cases c31 : t136.size + t137.size ≤ 9223372036854775807
  rotate_left
  ·rw [if_neg c31] at H
   exact absurd H (by simp)
  rw [if_pos c31] at H
  have c31b0 := eq_true c31
  have c31b1 : decide (t136.size + t137.size ≤ 9223372036854775807) = true := decide_eq_true c31
  try have c31b2 : (9223372036854775807 < t136.size + t137.size) = False := eq_false (Nat.not_lt.2 c31)
  obtain ⟨ji32, hji32⟩ : ∃ j_ : Int, (wrap64 (a2 + a3)) = j_ := ⟨_, rfl⟩
  (try rw [hji32] at c29b9)
  replace H : (if 0 ≤ (ji32) then (if (ji32) ≤ (ji21) then ((spec_l23Back.f kj4 (((a0.extract (a1 : Int).toNat a0.size) ++ (a0.extract 0 (a1 : Int).toNat)).extract ((ji32) : Int).toNat ((ji21) : Int).toNat)).bind fun t138 => (if (t136 ++ t137).size + t138.size ≤ 9223372036854775807 then (some ((((a0.extract (a1 : Int).toNat a0.size) ++ (a0.extract 0 (a1 : Int).toNat)).extract ((ji21) : Int).toNat ((a0.extract (a1 : Int).toNat a0.size) ++ (a0.extract 0 (a1 : Int).toNat)).size).toList == ((t136 ++ t137) ++ t138).toList)) else (none))) else (none)) else (none)) = some r := by first | (rw [hji32] at H; exact H) | (simp only [hji32] at H ⊢; exact H)
  (try rw [hji32] at c28b0)
  (try rw [hji32] at c28b1)
  (try rw [hji32] at c28)
  (try rw [hji32] at c29b0)
  (try rw [hji32] at c29b1)
  (try rw [hji32] at c29)
  (try rw [hji32] at A26)
  (try rw [hji32] at A30)
  have hji32w : (IntKind.i64.wrap (a2 + a3)) = ji32 := (i64_w _).trans hji32
  by_cases c33 : 0 ≤ (ji32)
  rotate_left
  ·rw [if_neg c33] at H
   exact absurd H (by simp)
  rw [if_pos c33] at H
  have c33b0 := eq_true c33
  have c33b1 : decide (0 ≤ (ji32)) = true := decide_eq_true c33
  clear c33
  by_cases c34 : (ji32) ≤ (ji21)
  rotate_left
  ·rw [if_neg c34] at H
   exact absurd H (by simp)
  rw [if_pos c34] at H
  have c34b0 := eq_true c34
  have c34b1 : decide ((ji32) ≤ (ji21)) = true := decide_eq_true c34
  clear c34
  have c35b0 := eq_true (zD : (ji21) ≤ (((a0.extract (a1 : Int).toNat a0.size) ++ (a0.extract 0 (a1 : Int).toNat)).size : Int))
  replace H := ob H
  obtain ⟨t138, A360, H⟩ := H
  (try dsimp only at H)
  have A36 := am A360
  clear A360
  by_cases c37 : (t136 ++ t137).size + t138.size ≤ 9223372036854775807
  rotate_left
  ·rw [if_neg c37] at H
   exact absurd H (by simp)
  rw [if_pos c37] at H
  have c37b0 := eq_true c37
  have c37b1 : decide ((t136 ++ t137).size + t138.size ≤ 9223372036854775807) = true := decide_eq_true c37
  try have c37b2 : (9223372036854775807 < (t136 ++ t137).size + t138.size) = False := eq_false (Nat.not_lt.2 c37)
  try (have c37b8 := c37b2; simp only [ByteArray.size_append] at c37b8)
  obtain rfl := oi H
  try go_wp2
  have n0_ := am (Bb3 HB.out)
  clear HB
  have HB := n0_
  clear n0_
  refine start_ (n := 8) (S := fun w' => True) (ds := []) #[z',z',z',z',z',z',z',z'] (by kernel_rfl) rfl rfl trivial (fun hHeld => ?_); refine with_tabW spec_l24Factors.tab5 spec_l24Factors.bits5 (fun HT_ HW_ => ?_)
  generalize wc.drew = w38 at HB hHeld ⊢
  refine pure_ (i := 0) (N := some 61) (v := ?_) (a' := ?_) #[o',z',z',z',z',z',z',z'] rfl rfl zA (fun _ _ _ h => h) (Or.inl ⟨by rfl, ?_⟩) ?_ ?_
  rotate_left
  ·intro w'
   go_simp
   with_reducible rfl
  rotate_left
  ·exact zP
  refine pure_ (i := 1) (N := some 62) (v := ?_) (a' := ?_) #[o',o',z',z',z',z',z',z'] rfl rfl zA (fun _ _ _ h => h) (Or.inl ⟨by rfl, ?_⟩) ?_ ?_
  rotate_left
  ·intro w'
   go_simp
   with_reducible rfl
  rotate_left
  ·exact zP
  refine pure_ (i := 2) (N := some 63) (v := ?_) (a' := ?_) #[o',o',o',z',z',z',z',z'] rfl rfl zA (fun _ _ _ h => h) (Or.inl ⟨by rfl, ?_⟩) ?_ ?_
  rotate_left
  ·intro w'
   go_simp
   with_reducible rfl
  rotate_left
  ·exact zP
  refine pure_ (i := 3) (N := some 64) (v := ?_) (a' := ?_) #[o',o',o',o',z',z',z',z'] rfl rfl zA (fun _ _ _ h => h) (Or.inl ⟨by rfl, ?_⟩) ?_ ?_
  rotate_left
  ·intro w'
   go_simp
   with_reducible rfl
  rotate_left
  ·exact zP
  refine pure_ (i := 4) (N := some 65) (v := ?_) (a' := ?_) #[o',o',o',o',o',z',z',z'] rfl rfl zA (fun _ _ _ h => h) (Or.inl ⟨by rfl, ?_⟩) ?_ ?_
  rotate_left
  ·intro w'
   go_simp
   with_reducible rfl
  rotate_left
  ·exact zP
  refine pure_ (i := 5) (N := some 66) (v := ?_) (a' := ?_) #[o',o',o',o',o',o',z',z'] rfl rfl zA (fun _ _ _ h => h) (Or.inl ⟨by rfl, ?_⟩) ?_ ?_
  rotate_left
  ·intro w'
   go_simp
   with_reducible rfl
  rotate_left
  ·exact zP
  refine pure_ (i := 6) (N := some 67) (v := ?_) (a' := ?_) #[o',o',o',o',o',o',o',z'] rfl rfl zA (fun _ _ _ h => h) (Or.inl ⟨by rfl, ?_⟩) ?_ ?_
  rotate_left
  ·intro w'
   go_simp
   with_reducible rfl
  rotate_left
  ·exact zP
  refine pure_ (i := 7) (N := some 11) (v := ?_) (a' := ?_) #[o',o',o',o',o',o',o',o'] rfl rfl zA (fun _ _ _ h => h) (Or.inl ⟨by rfl, ?_⟩) ?_ ?_
  rotate_left
  ·intro w'
   go_simp
   with_reducible rfl
  rotate_left
  ·exact zP
  refine done_ (done_of HT_.out (by kernel_rfl)) ?_
  try go_wp2
  have n0_ := am (Bb3 HB.out)
  clear HB
  have HB := n0_
  clear n0_
  refine start_ (n := 27) (S := fun w' => True) (ds := []) #[z',z',z',z',z',z',z',z',z',z',z',z',z',z',z',z',z',z',z',z',z',z',z',z',z',z',z'] (by kernel_rfl) rfl rfl trivial (fun hHeld => ?_); refine with_tabW spec_l24Factors.tab6 spec_l24Factors.bits6 (fun HT_ HW_ => ?_)
  generalize w38.drew = w39 at HB hHeld ⊢
  refine pure_ (i := 0) (N := some 68) (v := ?_) (a' := ?_) #[o',z',z',z',z',z',z',z',z',z',z',z',z',z',z',z',z',z',z',z',z',z',z',z',z',z',z'] rfl rfl zA (fun _ _ _ h => h) (Or.inl ⟨by rfl, ?_⟩) ?_ ?_
  rotate_left
  ·intro w'
   go_simp
   with_reducible rfl
  rotate_left
  ·exact zP
  refine pure_ (i := 1) (N := some 69) (v := ?_) (a' := ?_) #[o',o',z',z',z',z',z',z',z',z',z',z',z',z',z',z',z',z',z',z',z',z',z',z',z',z',z'] rfl rfl zA (fun _ _ _ h => h) (Or.inl ⟨by rfl, ?_⟩) ?_ ?_
  rotate_left
  ·intro w'
   go_simp
   with_reducible rfl
  rotate_left
  ·exact zP
  refine pure_ (i := 2) (N := some 70) (v := ?_) (a' := ?_) #[o',o',o',z',z',z',z',z',z',z',z',z',z',z',z',z',z',z',z',z',z',z',z',z',z',z',z'] rfl rfl zA (fun _ _ _ h => h) (Or.inl ⟨by rfl, ?_⟩) ?_ ?_
  rotate_left
  ·intro w'
   go_simp
   with_reducible rfl
  rotate_left
  ·exact zP
  refine pure_ (i := 3) (N := some 71) (v := ?_) (a' := ?_) #[o',o',o',o',z',z',z',z',z',z',z',z',z',z',z',z',z',z',z',z',z',z',z',z',z',z',z'] rfl rfl zA (fun _ _ _ h => h) (Or.inl ⟨by rfl, ?_⟩) ?_ ?_
  rotate_left
  ·intro w'
   go_simp
   with_reducible rfl
  rotate_left
  ·exact zP
  refine pure_ (i := 4) (N := some 72) (v := ?_) (a' := ?_) #[o',o',o',o',o',z',z',z',z',z',z',z',z',z',z',z',z',z',z',z',z',z',z',z',z',z',z'] rfl rfl zA (fun _ _ _ h => h) (Or.inl ⟨by rfl, ?_⟩) ?_ ?_
  rotate_left
  ·intro w'
   go_simp
   with_reducible rfl
  rotate_left
  ·exact zP
  refine pure_ (i := 5) (N := some 73) (v := ?_) (a' := ?_) #[o',o',o',o',o',o',z',z',z',z',z',z',z',z',z',z',z',z',z',z',z',z',z',z',z',z',z'] rfl rfl zA (fun _ _ _ h => h) (Or.inl ⟨by rfl, ?_⟩) ?_ ?_
  rotate_left
  ·intro w'
   go_simp
   with_reducible rfl
  rotate_left
  ·exact zP
  refine pure_ (i := 6) (N := some 74) (v := ?_) (a' := ?_) #[o',o',o',o',o',o',o',z',z',z',z',z',z',z',z',z',z',z',z',z',z',z',z',z',z',z',z'] rfl rfl zA (fun _ _ _ h => h) (Or.inl ⟨by rfl, ?_⟩) ?_ ?_
  rotate_left
  ·intro w'
   go_simp
   with_reducible rfl
  rotate_left
  ·exact zP
  refine pure_ (i := 8) (N := some 76) (v := ?_) (a' := ?_) #[o',o',o',o',o',o',o',z',o',z',z',z',z',z',z',z',z',z',z',z',z',z',z',z',z',z',z'] rfl rfl zA (fun _ _ _ h => h) (Or.inl ⟨by rfl, ?_⟩) ?_ ?_
  rotate_left
  ·intro w'
   go_simp
   with_reducible rfl
  rotate_left
  ·exact zP
  refine pure_ (i := 9) (N := some 77) (v := ?_) (a' := ?_) #[o',o',o',o',o',o',o',z',o',o',z',z',z',z',z',z',z',z',z',z',z',z',z',z',z',z',z'] rfl rfl zA (fun _ _ _ h => h) (Or.inl ⟨by rfl, ?_⟩) ?_ ?_
  rotate_left
  ·intro w'
   go_simp
   with_reducible rfl
  rotate_left
  ·exact zP
  refine pure_ (i := 10) (N := some 78) (v := ?_) (a' := ?_) #[o',o',o',o',o',o',o',z',o',o',o',z',z',z',z',z',z',z',z',z',z',z',z',z',z',z',z'] rfl rfl zA (fun _ _ _ h => h) (Or.inl ⟨by rfl, ?_⟩) ?_ ?_
  rotate_left
  ·intro w'
   go_simp
   with_reducible rfl
  rotate_left
  ·exact zP
  refine pure_ (i := 11) (N := some 79) (v := ?_) (a' := ?_) #[o',o',o',o',o',o',o',z',o',o',o',o',z',z',z',z',z',z',z',z',z',z',z',z',z',z',z'] rfl rfl zA (fun _ _ _ h => h) (Or.inl ⟨by rfl, ?_⟩) ?_ ?_
  rotate_left
  ·intro w'
   go_simp
   with_reducible rfl
  rotate_left
  ·exact zP
  refine pure_ (i := 12) (N := some 80) (v := ?_) (a' := ?_) #[o',o',o',o',o',o',o',z',o',o',o',o',o',z',z',z',z',z',z',z',z',z',z',z',z',z',z'] rfl rfl zA (fun _ _ _ h => h) (Or.inl ⟨by rfl, ?_⟩) ?_ ?_
  rotate_left
  ·intro w'
   go_simp
   with_reducible rfl
  rotate_left
  ·exact zP
  refine pure_ (i := 13) (N := some 81) (v := ?_) (a' := ?_) #[o',o',o',o',o',o',o',z',o',o',o',o',o',o',z',z',z',z',z',z',z',z',z',z',z',z',z'] rfl rfl zA (fun _ _ _ h => h) (Or.inl ⟨by rfl, ?_⟩) ?_ ?_
  rotate_left
  ·intro w'
   go_simp
   with_reducible rfl
  rotate_left
  ·exact zP
  refine pure_ (i := 16) (N := some 84) (v := ?_) (a' := ?_) #[o',o',o',o',o',o',o',z',o',o',o',o',o',o',z',z',o',z',z',z',z',z',z',z',z',z',z'] rfl rfl zA (fun _ _ _ h => h) (Or.inl ⟨by rfl, ?_⟩) ?_ ?_
  rotate_left
  ·intro w'
   go_simp
   with_reducible rfl
  rotate_left
  ·exact zP
  refine pure_ (i := 17) (N := some 85) (v := ?_) (a' := ?_) #[o',o',o',o',o',o',o',z',o',o',o',o',o',o',z',z',o',o',z',z',z',z',z',z',z',z',z'] rfl rfl zA (fun _ _ _ h => h) (Or.inl ⟨by rfl, ?_⟩) ?_ ?_
  rotate_left
  ·intro w'
   go_simp
   with_reducible rfl
  rotate_left
  ·exact zP
  refine pure_ (i := 18) (N := some 86) (v := ?_) (a' := ?_) #[o',o',o',o',o',o',o',z',o',o',o',o',o',o',z',z',o',o',o',z',z',z',z',z',z',z',z'] rfl rfl zA (fun _ _ _ h => h) (Or.inl ⟨by rfl, ?_⟩) ?_ ?_
  rotate_left
  ·intro w'
   go_simp
   with_reducible rfl
  rotate_left
  ·exact zP
  refine pure_ (i := 19) (N := some 87) (v := ?_) (a' := ?_) #[o',o',o',o',o',o',o',z',o',o',o',o',o',o',z',z',o',o',o',o',z',z',z',z',z',z',z'] rfl rfl zA (fun _ _ _ h => h) (Or.inl ⟨by rfl, ?_⟩) ?_ ?_
  rotate_left
  ·intro w'
   go_simp
   with_reducible rfl
  rotate_left
  ·exact zP
  refine pure_ (i := 20) (N := some 88) (v := ?_) (a' := ?_) #[o',o',o',o',o',o',o',z',o',o',o',o',o',o',z',z',o',o',o',o',o',z',z',z',z',z',z'] rfl rfl zA (fun _ _ _ h => h) (Or.inl ⟨by rfl, ?_⟩) ?_ ?_
  rotate_left
  ·intro w'
   go_simp
   with_reducible rfl
  rotate_left
  ·exact zP
  refine pure_ (i := 21) (N := some 89) (v := ?_) (a' := ?_) #[o',o',o',o',o',o',o',z',o',o',o',o',o',o',z',z',o',o',o',o',o',o',z',z',z',z',z'] rfl rfl zA (fun _ _ _ h => h) (Or.inl ⟨by rfl, ?_⟩) ?_ ?_
  rotate_left
  ·intro w'
   go_simp
   with_reducible rfl
  rotate_left
  ·exact zP
  refine pure_ (i := 22) (N := some 90) (v := ?_) (a' := ?_) #[o',o',o',o',o',o',o',z',o',o',o',o',o',o',z',z',o',o',o',o',o',o',o',z',z',z',z'] rfl rfl zA (fun _ _ _ h => h) (Or.inl ⟨by rfl, ?_⟩) ?_ ?_
  rotate_left
  ·intro w'
   go_simp
   with_reducible rfl
  rotate_left
  ·exact zP
  refine one_ (i := 7) (N := some 75) #[o',o',o',o',o',o',o',o',o',o',o',o',o',o',z',z',o',o',o',o',o',o',o',z',z',z',z'] rfl rfl (one_of HT_.out (by kernel_rfl)) (by decide) (fun K hK => ?_)
  refine goes_ Tryd.func33 (by kernel_rfl) rfl #[.string (((a0.extract (a1 : Int).toNat a0.size) ++ (a0.extract 0 (a1 : Int).toNat)).extract 0 (a2 : Int).toNat)] (by rfl) rfl rfl zL ?_
  with_reducible refine (spec_l23Back.calls kj4 (((a0.extract (a1 : Int).toNat a0.size) ++ (a0.extract 0 (a1 : Int).toNat)).extract 0 (a2 : Int).toNat) t136 _ A26.out).mono ?_
  rintro e w40 ⟨rfl, hb⟩
  refine ⟨_, rfl, ?_⟩
  have n0_ := am (Bb6 zB hb)
  clear HB
  have HB := n0_
  clear n0_
  (try clear hb)
  (try clear hb2)
  (try clear hk)
  (try clear hi)
  refine hK.out _ _ trivial (fun hHeld => ?_)
  clear hK K
  refine norm_ (a' := ?_) ?_ ?_
  rotate_left
  ·show Act.put _ (some 75) _ = _
   simp only [Act.put, sa, i64_w, i32_w]
   rfl
  refine one_ (i := 14) (N := some 82) #[o',o',o',o',o',o',o',o',o',o',o',o',o',o',o',z',o',o',o',o',o',o',o',z',z',z',z'] rfl rfl (one_of HT_.out (by kernel_rfl)) (by decide) (fun K hK => ?_)
  refine goes_ Tryd.func33 (by kernel_rfl) rfl #[.string (((a0.extract (a1 : Int).toNat a0.size) ++ (a0.extract 0 (a1 : Int).toNat)).extract (a2 : Int).toNat ((ji32) : Int).toNat)] (by rfl) rfl rfl (by (try simp only [List.map_toArray, List.map_cons, List.map_nil]); first | done | (simp only [hji32]; rfl) | rfl | (simp only [List.length_drop, List.length_take]; rfl)) ?_
  with_reducible refine (spec_l23Back.calls kj4 (((a0.extract (a1 : Int).toNat a0.size) ++ (a0.extract 0 (a1 : Int).toNat)).extract (a2 : Int).toNat ((ji32) : Int).toNat) t137 _ A30.out).mono ?_
  rintro e w41 ⟨rfl, hb⟩
  refine ⟨_, rfl, ?_⟩
  have n0_ := am (Bb6 zB hb)
  clear HB
  have HB := n0_
  clear n0_
  (try clear hb)
  (try clear hb2)
  (try clear hk)
  (try clear hi)
  refine hK.out _ _ trivial (fun hHeld => ?_)
  clear hK K
  refine norm_ (a' := ?_) ?_ ?_
  rotate_left
  ·show Act.put _ (some 82) _ = _
   simp only [Act.put, sa, i64_w, i32_w]
   rfl
  refine pure_ (i := 15) (N := some 83) (v := ?_) (a' := ?_) #[o',o',o',o',o',o',o',o',o',o',o',o',o',o',o',o',o',o',o',o',o',o',o',z',z',z',z'] rfl rfl zA (fun _ _ _ h => h) (Or.inl ⟨by rfl, ?_⟩) ?_ ?_
  rotate_left
  ·intro w'
   go_simp
   with_reducible rfl
  rotate_left
  ·exact zP
  refine one_ (i := 23) (N := some 91) #[o',o',o',o',o',o',o',o',o',o',o',o',o',o',o',o',o',o',o',o',o',o',o',o',z',z',z'] rfl rfl (one_of HT_.out (by kernel_rfl)) (by decide) (fun K hK => ?_)
  refine goes_ Tryd.func33 (by kernel_rfl) rfl #[.string (((a0.extract (a1 : Int).toNat a0.size) ++ (a0.extract 0 (a1 : Int).toNat)).extract ((ji32) : Int).toNat ((ji21) : Int).toNat)] (by rfl) rfl rfl (by (try simp only [List.map_toArray, List.map_cons, List.map_nil]); first | done | (simp only [hji21, hji32]; rfl) | rfl | (simp only [List.length_drop, List.length_take]; rfl)) ?_
  with_reducible refine (spec_l23Back.calls kj4 (((a0.extract (a1 : Int).toNat a0.size) ++ (a0.extract 0 (a1 : Int).toNat)).extract ((ji32) : Int).toNat ((ji21) : Int).toNat) t138 _ A36.out).mono ?_
  rintro e w42 ⟨rfl, hb⟩
  refine ⟨_, rfl, ?_⟩
  have n0_ := am (Bb6 zB hb)
  clear HB
  have HB := n0_
  clear n0_
  (try clear hb)
  (try clear hb2)
  (try clear hk)
  (try clear hi)
  refine hK.out _ _ trivial (fun hHeld => ?_)
  clear hK K
  refine norm_ (a' := ?_) ?_ ?_
  rotate_left
  ·show Act.put _ (some 91) _ = _
   simp only [Act.put, sa, i64_w, i32_w]
   rfl
  refine pure_ (i := 24) (N := some 92) (v := ?_) (a' := ?_) #[o',o',o',o',o',o',o',o',o',o',o',o',o',o',o',o',o',o',o',o',o',o',o',o',o',z',z'] rfl rfl zA (fun _ _ _ h => h) (Or.inl ⟨by rfl, ?_⟩) ?_ ?_
  rotate_left
  ·intro w'
   go_simp
   with_reducible rfl
  rotate_left
  ·exact zP
  refine pure_ (i := 25) (N := some 93) (v := ?_) (a' := ?_) #[o',o',o',o',o',o',o',o',o',o',o',o',o',o',o',o',o',o',o',o',o',o',o',o',o',o',z'] rfl rfl zA (fun _ _ _ h => h) (Or.inl ⟨by rfl, ?_⟩) ?_ ?_
  rotate_left
  ·intro w'
   go_simp
   with_reducible rfl
  rotate_left
  ·exact zP
  refine pure_ (i := 26) (N := some 8) (v := ?_) (a' := ?_) #[o',o',o',o',o',o',o',o',o',o',o',o',o',o',o',o',o',o',o',o',o',o',o',o',o',o',o'] rfl rfl zA (fun _ _ _ h => h) (Or.inl ⟨by rfl, ?_⟩) ?_ ?_
  rotate_left
  ·intro w'
   go_simp
   with_reducible rfl
  rotate_left
  ·exact zP
  refine done_ (done_of HT_.out (by kernel_rfl)) ?_
  try go_wp2
  go_ret
  exact ⟨by first | rfl | (simp [errW_none, errW_some] <;> rfl) | (simp only [← hji21, ← hji32]; first | rfl | (simp [errW_none, errW_some] <;> rfl)) | (simp [*, errW_none, errW_some] <;> rfl), zB⟩

end Go.Proofs.YtcgnnfaemjjljaaDoor.Q
