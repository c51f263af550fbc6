/- Written by a program of this session (wip/tools/pp.py) out of the translation, with the kit's printer. -/
import Derived.Test.YtjgnlakgojookaaQ0
namespace Go.Proofs.Ytjgnlakgojookaa.Q
open Go.RowKit Go.Proofs.YtjgnlakgojookaaW.PrintWords Go.Proofs.YtjgnlakgojookaaW.PrintLast Go.Proofs.YtjgnlakgojookaaW.PrintMore
attribute [local go_sem] max2_int min2_int max_two min_two max_three min_three max_four min_four
set_option linter.unusedVariables false
set_option linter.unusedSimpArgs false

/-! ### laws_heldCubeS: function 36 -/
def laws_heldCubeS.l0 : Nat → List (S71) → Int → Int → Option (Int)
 | 0, _, _, _ => none
 | k + 1, x0, x1, x5 => if x5 < (x0.length : Int) then (if 0 ≤ x5 then (if ((rd_T71 x0 x5).f0) = x1 then (if ((rd_T71 x0 x5).f1) = (wrap64 (x1 + 1)) then (if ((rd_T71 x0 x5).f2) = (wrap64 ((wrap64 (x1 + 1)) + 1)) then (laws_heldCubeS.l0 k x0 (wrap64 ((wrap64 ((wrap64 (x1 + 1)) + 1)) + 1)) (wrap64 (x5 + 1))) else (some (-1))) else (some (-1))) else (some (-1))) else (none)) else (some x1)
def laws_heldCubeS.f (k : Nat) (l0 : List (S71)) (a1 : Int) : Option (Int) := laws_heldCubeS.l0 k l0 a1 0
theorem laws_heldCubeS.mono_l : ∀ k, (∀ y0 y1 y2, LeO (laws_heldCubeS.l0 k y0 y1 y2) (laws_heldCubeS.l0 (k + 1) y0 y1 y2))
 | 0 => fun _ _ _ r h => by simp [laws_heldCubeS.l0] at h
 | k + 1 => by
  have ih0 := laws_heldCubeS.mono_l k
  ·intro y0 y1 y2
   unfold laws_heldCubeS.l0
   repeat' first
   | (with_reducible exact ih0 _ _ _)
   | (with_reducible exact LeO.refl _)
   | (with_reducible exact LeO.none _)
   | (with_reducible refine LeO.ite ?_ ?_)
   | (with_reducible refine LeO.bind ?_ (fun _ => ?_))
   | exact ih0 _ _ _
   | exact LeO.none _
   | refine LeO.ite ?_ ?_
   | refine LeO.bind ?_ (fun _ => ?_)
theorem laws_heldCubeS.mono : ∀ a0 a1 k, LeO (laws_heldCubeS.f k a0 a1) (laws_heldCubeS.f (k + 1) a0 a1) := by
 intro a0 a1 k
 have ih0 := laws_heldCubeS.mono_l k
 unfold laws_heldCubeS.f
 repeat' first
   | (with_reducible exact ih0 _ _ _)
   | (with_reducible exact LeO.refl _)
   | (with_reducible exact LeO.none _)
   | (with_reducible refine LeO.ite ?_ ?_)
   | (with_reducible refine LeO.bind ?_ (fun _ => ?_))
   | exact ih0 _ _ _
   | exact LeO.none _
   | refine LeO.ite ?_ ?_
   | refine LeO.bind ?_ (fun _ => ?_)
set_option maxHeartbeats 8000000 in
set_option maxRecDepth 100000 in
theorem laws_heldCubeS.calls (k : Nat) (A0 : Option Addr) (c0 : Nat) (l0 : List (S71)) (a1 : Int) (r : Int) (w : World) (hr0 : Kd.C k71 w A0 l0.length l0) (hc0 : l0.length ≤ c0) (h : laws_heldCubeS.f k l0 a1 = some r) :
  Calls Try.prog 36 #[.slice A0 l0.length c0, .int .i64 a1] w fun e w' => e = .returned (.int .i64 r) ∧ Drawn0 w w' := by
 have HR0 := am hr0
 have HC0 := am hc0
 clear hr0 hc0
 have H : (laws_heldCubeS.l0 k l0 a1 0) = some r := h
 clear h
 have H' := am H
 clear H
 go_enter Try.func36, Try.ntmps36
 go_wp2
 go_loopg [1, 5] k (fun kq v1 v5 w' => ∃ (x1_1 : Int) (x5_1 : Int), v1 = .int .i64 x1_1 ∧ v5 = .int .i64 x5_1 ∧ Aside0 (laws_heldCubeS.l0 kq l0 x1_1 x5_1 = some r) ∧ Aside0 (kq ≤ k) ∧ Drawn0 w w')
 case atStart => exact ⟨(a1), (0), zS, zS, H', ⟨Nat.le_refl _⟩, by repeat (first | exact Drawn0.refl _ | apply Drawn0.step)⟩
 case round =>
  clear H'
  try clear p2
  obtain ⟨x1_1, x5_1, rfl, rfl, HA, HK1, ⟨m1, rfl⟩⟩ := hrel
  cases gk with
  | zero => exact absurd HA.out (by simp [laws_heldCubeS.l0])
  | succ k1 =>
   have H := HA.out
   clear HA
   simp only [laws_heldCubeS.l0] at H
   by_cases c3 : x5_1 < (l0.length : Int)
   rotate_left
   ·rw [if_neg c3] at H
    have c3b0 : decide (x5_1 < (l0.length : Int)) = false := decide_eq_false c3
    clear c3
    obtain rfl := oi H
    go_wp2
    go_ret
    exact ⟨by first | rfl | (simp; done) | (simp [*]; done), by repeat (first | exact Drawn0.refl _ | apply Drawn0.step)⟩
   rw [if_pos c3] at H
   have c3b0 : decide (x5_1 < (l0.length : Int)) = true := decide_eq_true c3
   clear c3
   by_cases c4 : 0 ≤ x5_1
   rotate_left
   ·rw [if_neg c4] at H
    exact absurd H (by simp)
   rw [if_pos c4] at H
   have c4b0 : decide (0 ≤ x5_1) = true := decide_eq_true c4
   clear c4
   by_cases c5 : ((rd_T71 l0 x5_1).f0) = x1_1
   rotate_left
   ·rw [if_neg c5] at H
    have c5b0 : (((rd_T71 l0 x5_1).f0) == x1_1) = false := beq_eq_false_iff_ne.mpr c5
    have c5b1 : (((rd_T71 l0 x5_1).f0) != x1_1) = true := bne_iff_ne.mpr c5
    obtain rfl := oi H
    have p430 : 0 ≤ (x5_1 : Int) := zD
    have q430 : x5_1 < (l0.length : Int) := zD
    obtain ⟨ad430, e430, hx430_0, hx430_1, hx430_2⟩ := at_T71 HR0.out x5_1 p430 q430
    cases e430
    replace p430 := eq_true p430
    replace q430 := eq_true q430
    go_wp2
    go_ret
    exact ⟨by first | rfl | (simp; done) | (simp [*]; done), by repeat (first | exact Drawn0.refl _ | apply Drawn0.step)⟩
   rw [if_pos c5] at H
   have c5b0 : (((rd_T71 l0 x5_1).f0) == x1_1) = true := beq_iff_eq.mpr c5
   have c5b1 : (((rd_T71 l0 x5_1).f0) != x1_1) = false := bne_eq_false_iff_eq.mpr c5
   clear c5
   by_cases c6 : ((rd_T71 l0 x5_1).f1) = (wrap64 (x1_1 + 1))
   rotate_left
   ·rw [if_neg c6] at H
    have c6b0 : (((rd_T71 l0 x5_1).f1) == (wrap64 (x1_1 + 1))) = false := beq_eq_false_iff_ne.mpr c6
    have c6b1 : (((rd_T71 l0 x5_1).f1) != (wrap64 (x1_1 + 1))) = true := bne_iff_ne.mpr c6
    obtain rfl := oi H
    have p430 : 0 ≤ (x5_1 : Int) := zD
    have q430 : x5_1 < (l0.length : Int) := zD
    obtain ⟨ad430, e430, hx430_0, hx430_1, hx430_2⟩ := at_T71 HR0.out x5_1 p430 q430
    cases e430
    replace p430 := eq_true p430
    replace q430 := eq_true q430
    have p431 : 0 ≤ (x5_1 : Int) := zD
    have q431 : x5_1 < (l0.length : Int) := zD
    obtain ⟨ad431, e431, hx431_0, hx431_1, hx431_2⟩ := at_T71 HR0.out x5_1 p431 q431
    obtain rfl : ad430 = ad431 := (by injection e431)
    replace p431 := eq_true p431
    replace q431 := eq_true q431
    go_wp2
    go_ret
    exact ⟨by first | rfl | (simp; done) | (simp [*]; done), by repeat (first | exact Drawn0.refl _ | apply Drawn0.step)⟩
   rw [if_pos c6] at H
   have c6b0 : (((rd_T71 l0 x5_1).f1) == (wrap64 (x1_1 + 1))) = true := beq_iff_eq.mpr c6
   have c6b1 : (((rd_T71 l0 x5_1).f1) != (wrap64 (x1_1 + 1))) = false := bne_eq_false_iff_eq.mpr c6
   clear c6
   by_cases c7 : ((rd_T71 l0 x5_1).f2) = (wrap64 ((wrap64 (x1_1 + 1)) + 1))
   rotate_left
   ·rw [if_neg c7] at H
    have c7b0 : (((rd_T71 l0 x5_1).f2) == (wrap64 ((wrap64 (x1_1 + 1)) + 1))) = false := beq_eq_false_iff_ne.mpr c7
    have c7b1 : (((rd_T71 l0 x5_1).f2) != (wrap64 ((wrap64 (x1_1 + 1)) + 1))) = true := bne_iff_ne.mpr c7
    obtain rfl := oi H
    have p430 : 0 ≤ (x5_1 : Int) := zD
    have q430 : x5_1 < (l0.length : Int) := zD
    obtain ⟨ad430, e430, hx430_0, hx430_1, hx430_2⟩ := at_T71 HR0.out x5_1 p430 q430
    cases e430
    replace p430 := eq_true p430
    replace q430 := eq_true q430
    have p431 : 0 ≤ (x5_1 : Int) := zD
    have q431 : x5_1 < (l0.length : Int) := zD
    obtain ⟨ad431, e431, hx431_0, hx431_1, hx431_2⟩ := at_T71 HR0.out x5_1 p431 q431
    obtain rfl : ad430 = ad431 := (by injection e431)
    replace p431 := eq_true p431
    replace q431 := eq_true q431
    have p432 : 0 ≤ (x5_1 : Int) := zD
    have q432 : x5_1 < (l0.length : Int) := zD
    obtain ⟨ad432, e432, hx432_0, hx432_1, hx432_2⟩ := at_T71 HR0.out x5_1 p432 q432
    obtain rfl : ad430 = ad432 := (by injection e432)
    replace p432 := eq_true p432
    replace q432 := eq_true q432
    go_wp2
    go_ret
    exact ⟨by first | rfl | (simp; done) | (simp [*]; done), by repeat (first | exact Drawn0.refl _ | apply Drawn0.step)⟩
   rw [if_pos c7] at H
   have c7b0 : (((rd_T71 l0 x5_1).f2) == (wrap64 ((wrap64 (x1_1 + 1)) + 1))) = true := beq_iff_eq.mpr c7
   have c7b1 : (((rd_T71 l0 x5_1).f2) != (wrap64 ((wrap64 (x1_1 + 1)) + 1))) = false := bne_eq_false_iff_eq.mpr c7
   clear c7
   have H' := am H
   clear H
   have p430 : 0 ≤ (x5_1 : Int) := zD
   have q430 : x5_1 < (l0.length : Int) := zD
   obtain ⟨ad430, e430, hx430_0, hx430_1, hx430_2⟩ := at_T71 HR0.out x5_1 p430 q430
   cases e430
   replace p430 := eq_true p430
   replace q430 := eq_true q430
   have p431 : 0 ≤ (x5_1 : Int) := zD
   have q431 : x5_1 < (l0.length : Int) := zD
   obtain ⟨ad431, e431, hx431_0, hx431_1, hx431_2⟩ := at_T71 HR0.out x5_1 p431 q431
   obtain rfl : ad430 = ad431 := (by injection e431)
   replace p431 := eq_true p431
   replace q431 := eq_true q431
   have p432 : 0 ≤ (x5_1 : Int) := zD
   have q432 : x5_1 < (l0.length : Int) := zD
   obtain ⟨ad432, e432, hx432_0, hx432_1, hx432_2⟩ := at_T71 HR0.out x5_1 p432 q432
   obtain rfl : ad430 = ad432 := (by injection e432)
   replace p432 := eq_true p432
   replace q432 := eq_true q432
   go_wp2
   go_roundg k1
   case measure => have := HK1.out; omega
   case rel => exact ⟨(wrap64 ((wrap64 ((wrap64 (x1_1 + 1)) + 1)) + 1)), (wrap64 (x5_1 + 1)), zS, zS, H', ⟨by have := HK1.out; omega⟩, by repeat (first | exact Drawn0.refl _ | apply Drawn0.step)⟩

/-! ### laws_heldCubeSS: function 33 -/
def laws_heldCubeSS.l0 : Nat → List (List (S71)) → Int → Int → Option (Int)
 | 0, _, _, _ => none
 | k + 1, x0, x1, x5 => if x5 < (x0.length : Int) then (if 0 ≤ x5 then ((laws_heldCubeS.f k (rd_L4 x0 x5) x1).bind fun t434 => (if t434 < 0 then (some (-1)) else (laws_heldCubeSS.l0 k x0 t434 (wrap64 (x5 + 1))))) else (none)) else (some x1)
def laws_heldCubeSS.f (k : Nat) (l0 : List (List (S71))) (a1 : Int) : Option (Int) := laws_heldCubeSS.l0 k l0 a1 0
theorem laws_heldCubeSS.mono_l : ∀ k, (∀ y0 y1 y2, LeO (laws_heldCubeSS.l0 k y0 y1 y2) (laws_heldCubeSS.l0 (k + 1) y0 y1 y2))
 | 0 => fun _ _ _ r h => by simp [laws_heldCubeSS.l0] at h
 | k + 1 => by
  have ih0 := laws_heldCubeSS.mono_l k
  ·intro y0 y1 y2
   unfold laws_heldCubeSS.l0
   repeat' first
   | (with_reducible exact ih0 _ _ _)
   | (with_reducible exact laws_heldCubeS.mono _ _ _)
   | (with_reducible exact LeO.refl _)
   | (with_reducible exact LeO.none _)
   | (with_reducible refine LeO.ite ?_ ?_)
   | (with_reducible refine LeO.bind ?_ (fun _ => ?_))
   | exact ih0 _ _ _
   | exact laws_heldCubeS.mono _ _ _
   | exact LeO.none _
   | refine LeO.ite ?_ ?_
   | refine LeO.bind ?_ (fun _ => ?_)
theorem laws_heldCubeSS.mono : ∀ a0 a1 k, LeO (laws_heldCubeSS.f k a0 a1) (laws_heldCubeSS.f (k + 1) a0 a1) := by
 intro a0 a1 k
 have ih0 := laws_heldCubeSS.mono_l k
 unfold laws_heldCubeSS.f
 repeat' first
   | (with_reducible exact ih0 _ _ _)
   | (with_reducible exact laws_heldCubeS.mono _ _ _)
   | (with_reducible exact LeO.refl _)
   | (with_reducible exact LeO.none _)
   | (with_reducible refine LeO.ite ?_ ?_)
   | (with_reducible refine LeO.bind ?_ (fun _ => ?_))
   | exact ih0 _ _ _
   | exact laws_heldCubeS.mono _ _ _
   | exact LeO.none _
   | refine LeO.ite ?_ ?_
   | refine LeO.bind ?_ (fun _ => ?_)
set_option maxHeartbeats 8000000 in
set_option maxRecDepth 100000 in
theorem laws_heldCubeSS.calls (k : Nat) (A0 : Option Addr) (c0 : Nat) (l0 : List (List (S71))) (a1 : Int) (r : Int) (w : World) (hr0 : Kd.C (Kd.slice 71 k71) w A0 l0.length l0) (hc0 : l0.length ≤ c0) (h : laws_heldCubeSS.f k l0 a1 = some r) :
  Calls Try.prog 33 #[.slice A0 l0.length c0, .int .i64 a1] w fun e w' => e = .returned (.int .i64 r) ∧ Drawn0 w w' := by
 have HR0 := am hr0
 have HC0 := am hc0
 clear hr0 hc0
 have H : (laws_heldCubeSS.l0 k l0 a1 0) = some r := h
 clear h
 have H' := am H
 clear H
 go_enter Try.func33, Try.ntmps33
 go_wp2
 go_loopg [1, 5] k (fun kq v1 v5 w' => ∃ (x1_1 : Int) (x5_1 : Int), v1 = .int .i64 x1_1 ∧ v5 = .int .i64 x5_1 ∧ Aside0 (laws_heldCubeSS.l0 kq l0 x1_1 x5_1 = some r) ∧ Aside0 (kq ≤ k) ∧ Drawn0 w w')
 case atStart => exact ⟨(a1), (0), zS, zS, H', ⟨Nat.le_refl _⟩, by repeat (first | exact Drawn0.refl _ | apply Drawn0.step)⟩
 case round =>
  clear H'
  try clear p2
  obtain ⟨x1_1, x5_1, rfl, rfl, HA, HK1, ⟨m1, rfl⟩⟩ := hrel
  cases gk with
  | zero => exact absurd HA.out (by simp [laws_heldCubeSS.l0])
  | succ k1 =>
   have H := HA.out
   clear HA
   simp only [laws_heldCubeSS.l0] at H
   by_cases c3 : x5_1 < (l0.length : Int)
   rotate_left
   ·rw [if_neg c3] at H
    have c3b0 : decide (x5_1 < (l0.length : Int)) = false := decide_eq_false c3
    clear c3
    obtain rfl := oi H
    go_wp2
    go_ret
    exact ⟨by first | rfl | (simp; done) | (simp [*]; done), by repeat (first | exact Drawn0.refl _ | apply Drawn0.step)⟩
   rw [if_pos c3] at H
   have c3b0 : decide (x5_1 < (l0.length : Int)) = true := decide_eq_true c3
   clear c3
   by_cases c4 : 0 ≤ x5_1
   rotate_left
   ·rw [if_neg c4] at H
    exact absurd H (by simp)
   rw [if_pos c4] at H
   have c4b0 : decide (0 ≤ x5_1) = true := decide_eq_true c4
   clear c4
   replace H := ob H
   obtain ⟨t434, A50, H⟩ := H
   (try dsimp only at H)
   have A5 := am A50
   clear A50
   by_cases c6 : t434 < 0
   ·rw [if_pos c6] at H
    have c6b0 : decide (t434 < 0) = true := decide_eq_true c6
    clear c6
    obtain rfl := oi H
    have p433 : 0 ≤ (x5_1 : Int) := zD
    have q433 : x5_1 < (l0.length : Int) := zD
    obtain ⟨ad433, A433_0, c433_0, e433, hx433_0, hl433_0, hi433_0⟩ := at_L4 HR0.out x5_1 p433 q433
    cases e433
    have HR433_0 := am hi433_0
    have HC433_0 := am hl433_0
    clear hi433_0 hl433_0
    replace p433 := eq_true p433
    replace q433 := eq_true q433
    go_wp2_with (first | ((with_reducible refine gate_callee (f := 36) rfl ?_); refine goesL_ (some 17) rfl rfl Try.func36 (by kernel_rfl) rfl #[.slice A433_0 (rd_L4 l0 x5_1).length c433_0, .int .i64 x1_1] rfl zL ?_; (with_reducible refine (laws_heldCubeS.calls k1 _ _ (rd_L4 l0 x5_1) x1_1 t434 _ ?side1 ?side2 A5.out).mono ?_); (case side1 => repeat (first | exact HR433_0.out | (with_reducible refine Kd.C_alloc ?_ _) | (with_reducible refine Kd.C_drewN ?_ _) | (with_reducible refine Kd.C_drew ?_))); (case side2 => exact HC433_0.out); rintro e w' ⟨rfl, ⟨nd, rfl⟩⟩; refine ⟨_, rfl, ?_⟩))
    go_ret
    exact ⟨by first | rfl | (simp; done) | (simp [*]; done), by repeat (first | exact Drawn0.refl _ | apply Drawn0.step)⟩
   rw [if_neg c6] at H
   have c6b0 : decide (t434 < 0) = false := decide_eq_false c6
   clear c6
   have H' := am H
   clear H
   have p433 : 0 ≤ (x5_1 : Int) := zD
   have q433 : x5_1 < (l0.length : Int) := zD
   obtain ⟨ad433, A433_0, c433_0, e433, hx433_0, hl433_0, hi433_0⟩ := at_L4 HR0.out x5_1 p433 q433
   cases e433
   have HR433_0 := am hi433_0
   have HC433_0 := am hl433_0
   clear hi433_0 hl433_0
   replace p433 := eq_true p433
   replace q433 := eq_true q433
   go_wp2_with (first | ((with_reducible refine gate_callee (f := 36) rfl ?_); refine goesL_ (some 17) rfl rfl Try.func36 (by kernel_rfl) rfl #[.slice A433_0 (rd_L4 l0 x5_1).length c433_0, .int .i64 x1_1] rfl zL ?_; (with_reducible refine (laws_heldCubeS.calls k1 _ _ (rd_L4 l0 x5_1) x1_1 t434 _ ?side1 ?side2 A5.out).mono ?_); (case side1 => repeat (first | exact HR433_0.out | (with_reducible refine Kd.C_alloc ?_ _) | (with_reducible refine Kd.C_drewN ?_ _) | (with_reducible refine Kd.C_drew ?_))); (case side2 => exact HC433_0.out); rintro e w' ⟨rfl, ⟨nd, rfl⟩⟩; refine ⟨_, rfl, ?_⟩))
   go_roundg k1
   case measure => have := HK1.out; omega
   case rel => exact ⟨(t434), (wrap64 (x5_1 + 1)), zS, zS, H', ⟨by have := HK1.out; omega⟩, by repeat (first | exact Drawn0.refl _ | apply Drawn0.step)⟩

end Go.Proofs.Ytjgnlakgojookaa.Q
