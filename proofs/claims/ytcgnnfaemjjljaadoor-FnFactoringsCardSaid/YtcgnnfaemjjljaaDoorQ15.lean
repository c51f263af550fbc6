/- Written by a program of this session (wip/tools/pp.py) out of the translation, with the kit's printer. -/
import Derived.Test.YtcgnnfaemjjljaaDoorQ0
import Derived.Test.YtcgnnfaemjjljaaDoorQ6
import Derived.Test.YtcgnnfaemjjljaaDoorQ7
import Derived.Test.YtcgnnfaemjjljaaDoorQ9
namespace Go.Proofs.YtcgnnfaemjjljaaDoor.Q
open Go.RowKit Go.Proofs.YtcgnnfaemjjljaaDoorW.PrintWords Go.Proofs.YtcgnnfaemjjljaaDoorW.PrintLast Go.Proofs.YtcgnnfaemjjljaaDoorW.PrintMore
attribute [local go_sem] max2_int min2_int max_two min_two max_three min_three max_four min_four
set_option linter.unusedVariables false
set_option linter.unusedSimpArgs false

/-! ### spec_FindFactoring: function 21 -/
mutual
def spec_FindFactoring.j0 : Nat → ByteArray → Bool → Option (Int × Int × Int × Int)
 | 0, _, _ => none
 | k + 1, x0, x20 => if x20 = true then (some (0, 0, 0, 5)) else (spec_FindFactoring.l0 k x0 (x0.size : Int) 0)
def spec_FindFactoring.l0 : Nat → ByteArray → Int → Int → Option (Int × Int × Int × Int)
 | 0, _, _, _ => none
 | k + 1, x0, x6, x7 => if x7 < x6 then (spec_FindFactoring.l1 k x0 x6 x7 0) else (some (0, 0, 0, 4))
def spec_FindFactoring.l1 : Nat → ByteArray → Int → Int → Int → Option (Int × Int × Int × Int)
 | 0, _, _, _, _ => none
 | k + 1, x0, x6, x7, x8 => if x8 ≤ (wrap64 (x6 / 2)) then (spec_FindFactoring.l2 k x0 x6 x7 x8 0) else (spec_FindFactoring.l0 k x0 x6 (wrap64 (x7 + 1)))
def spec_FindFactoring.l2 : Nat → ByteArray → Int → Int → Int → Int → Option (Int × Int × Int × Int)
 | 0, _, _, _, _, _ => none
 | k + 1, x0, x6, x7, x8, x9 => if (wrap64 (x8 + x9)) ≤ (wrap64 (x6 / 2)) then ((spec_l24Factors.f k x0 x7 x8 x9).bind fun t165 => (if t165 = true then (some (x7, x8, x9, 0)) else (spec_FindFactoring.l2 k x0 x6 x7 x8 (wrap64 (x9 + 1))))) else (spec_FindFactoring.l1 k x0 x6 x7 (wrap64 (x8 + 1)))
end
def spec_FindFactoring.f (k : Nat) (a0 : ByteArray) : Option (Int × Int × Int × Int) := (spec_l23Is.f k a0).bind fun t163 => (if t163 = true then ((spec_IsClosed.f k a0).bind fun t164 => (if t164 = true then (spec_FindFactoring.j0 k a0 ((a0.size : Int) == 0)) else (spec_FindFactoring.j0 k a0 true))) else (some (0, 0, 0, 6)))
theorem spec_FindFactoring.mono_l : ∀ k, (∀ y0 y1, LeO (spec_FindFactoring.j0 k y0 y1) (spec_FindFactoring.j0 (k + 1) y0 y1)) ∧ (∀ y0 y1 y2, LeO (spec_FindFactoring.l0 k y0 y1 y2) (spec_FindFactoring.l0 (k + 1) y0 y1 y2)) ∧ (∀ y0 y1 y2 y3, LeO (spec_FindFactoring.l1 k y0 y1 y2 y3) (spec_FindFactoring.l1 (k + 1) y0 y1 y2 y3)) ∧ (∀ y0 y1 y2 y3 y4, LeO (spec_FindFactoring.l2 k y0 y1 y2 y3 y4) (spec_FindFactoring.l2 (k + 1) y0 y1 y2 y3 y4))
 | 0 => ⟨fun _ _ r h => by simp [spec_FindFactoring.j0] at h, fun _ _ _ r h => by simp [spec_FindFactoring.l0] at h, fun _ _ _ _ r h => by simp [spec_FindFactoring.l1] at h, fun _ _ _ _ _ r h => by simp [spec_FindFactoring.l2] at h⟩
 | k + 1 => by
  obtain ⟨ih0, ih1, ih2, ih3⟩ := spec_FindFactoring.mono_l k
  refine ⟨?_, ?_, ?_, ?_⟩
  ·intro y0 y1
   unfold spec_FindFactoring.j0
   repeat' first
   | (with_reducible exact ih0 _ _)
   | (with_reducible exact ih1 _ _ _)
   | (with_reducible exact ih2 _ _ _ _)
   | (with_reducible exact ih3 _ _ _ _ _)
   | (with_reducible exact spec_IsClosed.mono _ _)
   | (with_reducible exact spec_l23Is.mono _ _)
   | (with_reducible exact spec_l24Factors.mono _ _ _ _ _)
   | (with_reducible exact LeO.refl _)
   | (with_reducible exact LeO.none _)
   | (with_reducible refine LeO.ite ?_ ?_)
   | (with_reducible refine LeO.bind ?_ (fun _ => ?_))
   | exact ih0 _ _
   | exact ih1 _ _ _
   | exact ih2 _ _ _ _
   | exact ih3 _ _ _ _ _
   | exact spec_IsClosed.mono _ _
   | exact spec_l23Is.mono _ _
   | exact spec_l24Factors.mono _ _ _ _ _
   | exact LeO.none _
   | refine LeO.ite ?_ ?_
   | refine LeO.bind ?_ (fun _ => ?_)
  ·intro y0 y1 y2
   unfold spec_FindFactoring.l0
   repeat' first
   | (with_reducible exact ih0 _ _)
   | (with_reducible exact ih1 _ _ _)
   | (with_reducible exact ih2 _ _ _ _)
   | (with_reducible exact ih3 _ _ _ _ _)
   | (with_reducible exact spec_IsClosed.mono _ _)
   | (with_reducible exact spec_l23Is.mono _ _)
   | (with_reducible exact spec_l24Factors.mono _ _ _ _ _)
   | (with_reducible exact LeO.refl _)
   | (with_reducible exact LeO.none _)
   | (with_reducible refine LeO.ite ?_ ?_)
   | (with_reducible refine LeO.bind ?_ (fun _ => ?_))
   | exact ih0 _ _
   | exact ih1 _ _ _
   | exact ih2 _ _ _ _
   | exact ih3 _ _ _ _ _
   | exact spec_IsClosed.mono _ _
   | exact spec_l23Is.mono _ _
   | exact spec_l24Factors.mono _ _ _ _ _
   | exact LeO.none _
   | refine LeO.ite ?_ ?_
   | refine LeO.bind ?_ (fun _ => ?_)
  ·intro y0 y1 y2 y3
   unfold spec_FindFactoring.l1
   repeat' first
   | (with_reducible exact ih0 _ _)
   | (with_reducible exact ih1 _ _ _)
   | (with_reducible exact ih2 _ _ _ _)
   | (with_reducible exact ih3 _ _ _ _ _)
   | (with_reducible exact spec_IsClosed.mono _ _)
   | (with_reducible exact spec_l23Is.mono _ _)
   | (with_reducible exact spec_l24Factors.mono _ _ _ _ _)
   | (with_reducible exact LeO.refl _)
   | (with_reducible exact LeO.none _)
   | (with_reducible refine LeO.ite ?_ ?_)
   | (with_reducible refine LeO.bind ?_ (fun _ => ?_))
   | exact ih0 _ _
   | exact ih1 _ _ _
   | exact ih2 _ _ _ _
   | exact ih3 _ _ _ _ _
   | exact spec_IsClosed.mono _ _
   | exact spec_l23Is.mono _ _
   | exact spec_l24Factors.mono _ _ _ _ _
   | exact LeO.none _
   | refine LeO.ite ?_ ?_
   | refine LeO.bind ?_ (fun _ => ?_)
  ·intro y0 y1 y2 y3 y4
   unfold spec_FindFactoring.l2
   repeat' first
   | (with_reducible exact ih0 _ _)
   | (with_reducible exact ih1 _ _ _)
   | (with_reducible exact ih2 _ _ _ _)
   | (with_reducible exact ih3 _ _ _ _ _)
   | (with_reducible exact spec_IsClosed.mono _ _)
   | (with_reducible exact spec_l23Is.mono _ _)
   | (with_reducible exact spec_l24Factors.mono _ _ _ _ _)
   | (with_reducible exact LeO.refl _)
   | (with_reducible exact LeO.none _)
   | (with_reducible refine LeO.ite ?_ ?_)
   | (with_reducible refine LeO.bind ?_ (fun _ => ?_))
   | exact ih0 _ _
   | exact ih1 _ _ _
   | exact ih2 _ _ _ _
   | exact ih3 _ _ _ _ _
   | exact spec_IsClosed.mono _ _
   | exact spec_l23Is.mono _ _
   | exact spec_l24Factors.mono _ _ _ _ _
   | exact LeO.none _
   | refine LeO.ite ?_ ?_
   | refine LeO.bind ?_ (fun _ => ?_)
theorem spec_FindFactoring.mono : ∀ a0 k, LeO (spec_FindFactoring.f k a0) (spec_FindFactoring.f (k + 1) a0) := by
 intro a0 k
 obtain ⟨ih0, ih1, ih2, ih3⟩ := spec_FindFactoring.mono_l k
 unfold spec_FindFactoring.f
 repeat' first
   | (with_reducible exact ih0 _ _)
   | (with_reducible exact ih1 _ _ _)
   | (with_reducible exact ih2 _ _ _ _)
   | (with_reducible exact ih3 _ _ _ _ _)
   | (with_reducible exact spec_IsClosed.mono _ _)
   | (with_reducible exact spec_l23Is.mono _ _)
   | (with_reducible exact spec_l24Factors.mono _ _ _ _ _)
   | (with_reducible exact LeO.refl _)
   | (with_reducible exact LeO.none _)
   | (with_reducible refine LeO.ite ?_ ?_)
   | (with_reducible refine LeO.bind ?_ (fun _ => ?_))
   | exact ih0 _ _
   | exact ih1 _ _ _
   | exact ih2 _ _ _ _
   | exact ih3 _ _ _ _ _
   | exact spec_IsClosed.mono _ _
   | exact spec_l23Is.mono _ _
   | exact spec_l24Factors.mono _ _ _ _ _
   | exact LeO.none _
   | refine LeO.ite ?_ ?_
   | refine LeO.bind ?_ (fun _ => ?_)
set_option maxHeartbeats 8000000 in
set_option maxRecDepth 100000 in
theorem spec_FindFactoring.calls (k : Nat) (a0 : ByteArray) (r1 : Int) (r2 : Int) (r3 : Int) (r4 : Int) (w : World) (h : spec_FindFactoring.f k a0 = some (r1, r2, r3, r4)) :
  Calls Tryd.prog 21 #[.string a0] w fun e w' => e = .returned (.tuple #[.int .i64 r1, .int .i64 r2, .int .i64 r3, .int .i64 r4]) ∧ Below w.heap.size w w' := by
 have HB := am (Below.refl w.heap.size w)
 have H : ((spec_l23Is.f k a0).bind fun t163 => (if t163 = true then ((spec_IsClosed.f k a0).bind fun t164 => (if t164 = true then (spec_FindFactoring.j0 k a0 ((a0.size : Int) == 0)) else (spec_FindFactoring.j0 k a0 true))) else (some (0, 0, 0, 6)))) = some (r1, r2, r3, r4) := h
 clear h
 replace H := ob H
 obtain ⟨t163, A20, H⟩ := H
 (try dsimp only at H)
 have A2 := am A20
 clear A20
 by_cases c3 : t163 = true
 rotate_left
 ·replace c3 := ef c3
  subst c3
  have H1 : (some (0, 0, 0, 6)) = some (r1, r2, r3, r4) := by first | (rw [if_neg (show ¬ (false = true) by decide)] at H; exact H) | rfl
  clear H
  have H := H1
  clear H1
  simp only [Option.some.injEq, Prod.mk.injEq] at H
  obtain ⟨rfl, rfl, rfl, rfl⟩ := H
  go_enter Tryd.func21, Tryd.ntmps21
  go_wp2_with (first | ((with_reducible refine gate_callee (f := 28) rfl ?_); refine goesL_ (some 11) rfl rfl Tryd.func28 (by kernel_rfl) rfl #[.string a0] rfl zL ?_; (with_reducible refine (spec_l23Is.calls k a0 false _ A2.out).mono ?_); rintro e w' ⟨rfl, ⟨nd, rfl⟩⟩; refine ⟨_, rfl, ?_⟩))
  refine bodyPost_ret (results_list (rs := [.tmp 2, .tmp 3, .tmp 4, .tmp 5]) rfl (by simp) (.tmp (.tmp (.tmp (.tmp .nil))))) rfl ?_
  exact ⟨zE, zB⟩
 subst c3
 have H1 : ((spec_IsClosed.f k a0).bind fun t164 => (if t164 = true then (spec_FindFactoring.j0 k a0 ((a0.size : Int) == 0)) else (spec_FindFactoring.j0 k a0 true))) = some (r1, r2, r3, r4) := by first | (rw [if_pos rfl] at H; exact H) | rfl
 clear H
 have H := H1
 clear H1
 have HC4 := am H
 clear H
 go_enter Tryd.func21, Tryd.ntmps21
 go_upto_region 3 with (first | ((with_reducible refine gate_callee (f := 28) rfl ?_); refine goesL_ (some 11) rfl rfl Tryd.func28 (by kernel_rfl) rfl #[.string a0] rfl zL ?_; (with_reducible refine (spec_l23Is.calls k a0 true _ A2.out).mono ?_); rintro e w' ⟨rfl, ⟨nd, rfl⟩⟩; refine ⟨_, rfl, ?_⟩))
 (try simp only [Act.put, sa])
 go_cut [20] (fun v20 wc => ∃ (kq : Nat) (x20_3 : Bool), v20 = .bool x20_3 ∧ Aside0 (spec_FindFactoring.j0 kq a0 x20_3 = some (r1, r2, r3, r4)) ∧ Aside0 (kq ≤ k) ∧ Aside0 (Below w.heap.size w wc))
 case first =>
  have H := HC4.out
  clear HC4
  replace H := ob H
  obtain ⟨t164, A50, H⟩ := H
  (try dsimp only at H)
  have A5 := am A50
  clear A50
  by_cases c6 : t164 = true
  ·subst c6
   have H1 : (spec_FindFactoring.j0 k a0 ((a0.size : Int) == 0)) = some (r1, r2, r3, r4) := by first | (rw [if_pos rfl] at H; exact H) | rfl
   clear H
   have H := H1
   clear H1
   have H' := am H
   clear H
   go_wp2_with (first | ((with_reducible refine gate_callee (f := 15) rfl ?_); refine goesL_ (some 14) rfl rfl Tryd.func15 (by kernel_rfl) rfl #[.string a0] rfl zL ?_; (with_reducible refine (spec_IsClosed.calls k a0 true _ A5.out).mono ?_); rintro e w7 ⟨rfl, hb⟩; refine ⟨_, rfl, ?_⟩; have n0_ := am (Bb6 zB hb); clear HB; have HB := n0_; clear n0_; (try clear hb); (try clear hb2); (try clear hk); (try clear hi)))
   go_meet
   case rel => exact ⟨_, (((a0.size : Int) == 0)), zS, H', ⟨by first | omega | exact Nat.le_refl _⟩, ⟨zB⟩⟩
  replace c6 := ef c6
  subst c6
  have H1 : (spec_FindFactoring.j0 k a0 true) = some (r1, r2, r3, r4) := by first | (rw [if_neg (show ¬ (false = true) by decide)] at H; exact H) | rfl
  clear H
  have H := H1
  clear H1
  have H' := am H
  clear H
  go_wp2_with (first | ((with_reducible refine gate_callee (f := 15) rfl ?_); refine goesL_ (some 14) rfl rfl Tryd.func15 (by kernel_rfl) rfl #[.string a0] rfl zL ?_; (with_reducible refine (spec_IsClosed.calls k a0 false _ A5.out).mono ?_); rintro e w8 ⟨rfl, hb⟩; refine ⟨_, rfl, ?_⟩; have n0_ := am (Bb6 zB hb); clear HB; have HB := n0_; clear n0_; (try clear hb); (try clear hb2); (try clear hk); (try clear hi)))
  go_meet
  case rel => exact ⟨_, (true), zS, H', ⟨by first | omega | exact Nat.le_refl _⟩, ⟨zB⟩⟩
 clear HC4
 try clear c1
 try clear c2
 try clear p2
 try clear c3
 try clear c6
 obtain ⟨kq, x20_3, rfl, HA, HJ3, HB⟩ := hcut
 cases kq with
 | zero => exact absurd HA.out (by simp [spec_FindFactoring.j0])
 | succ kj3 =>
  have H := HA.out
  clear HA
  simp only [spec_FindFactoring.j0] at H
  by_cases c9 : x20_3 = true
  ·subst c9
   have H1 : (some (0, 0, 0, 5)) = some (r1, r2, r3, r4) := by first | (rw [if_pos rfl] at H; exact H) | rfl
   clear H
   have H := H1
   clear H1
   simp only [Option.some.injEq, Prod.mk.injEq] at H
   obtain ⟨rfl, rfl, rfl, rfl⟩ := H
   go_wp2
   refine bodyPost_ret (results_list (rs := [.tmp 2, .tmp 3, .tmp 4, .tmp 5]) rfl (by simp) (.tmp (.tmp (.tmp (.tmp .nil))))) rfl ?_
   exact ⟨zE, zB⟩
  replace c9 := ef c9
  subst c9
  have H1 : (spec_FindFactoring.l0 kj3 a0 (a0.size : Int) 0) = some (r1, r2, r3, r4) := by first | (rw [if_neg (show ¬ (false = true) by decide)] at H; exact H) | rfl
  clear H
  have H := H1
  clear H1
  have H' := am H
  clear H
  go_wp2
  go_loopg [7] kj3 (fun kq v7 w' => ∃ (x7_2 : Int), v7 = .int .i64 x7_2 ∧ Aside0 (spec_FindFactoring.l0 kq a0 (a0.size : Int) x7_2 = some (r1, r2, r3, r4)) ∧ Aside0 (kq ≤ kj3) ∧ Aside0 (Below w.heap.size w w'))
  case atStart => exact ⟨(0), zS, H', ⟨Nat.le_refl _⟩, ⟨zB⟩⟩
  case round =>
   clear H'
   try clear c1
   try clear c2
   try clear p2
   try clear c3
   try clear c6
   try clear c9
   try clear p2
   obtain ⟨x7_2, rfl, HA, HK2, HB⟩ := hrel
   cases gk with
   | zero => exact absurd HA.out (by simp [spec_FindFactoring.l0])
   | succ k2 =>
    have H := HA.out
    clear HA
    simp only [spec_FindFactoring.l0] at H
    by_cases c10 : x7_2 < (a0.size : Int)
    rotate_left
    ·rw [if_neg c10] at H
     have c10b0 : decide (x7_2 < (a0.size : Int)) = false := decide_eq_false c10
     clear c10
     simp only [Option.some.injEq, Prod.mk.injEq] at H
     obtain ⟨rfl, rfl, rfl, rfl⟩ := H
     go_wp2
     refine bodyPost_ret (results_list (rs := [.tmp 2, .tmp 3, .tmp 4, .tmp 5]) rfl (by simp) (.tmp (.tmp (.tmp (.tmp .nil))))) rfl ?_
     exact ⟨zE, zB⟩
    rw [if_pos c10] at H
    have c10b0 : decide (x7_2 < (a0.size : Int)) = true := decide_eq_true c10
    clear c10
    have H' := am H
    clear H
    go_wp2
    go_loopg [8] k2 (fun kq v8 w' => ∃ (x8_3 : Int), v8 = .int .i64 x8_3 ∧ Aside0 (spec_FindFactoring.l1 kq a0 (a0.size : Int) x7_2 x8_3 = some (r1, r2, r3, r4)) ∧ Aside0 (kq ≤ k2) ∧ Aside0 (Below w.heap.size w w'))
    case atStart => exact ⟨(0), zS, H', ⟨Nat.le_refl _⟩, ⟨zB⟩⟩
    case round =>
     clear H'
     try clear c1
     try clear c2
     try clear p2
     try clear c3
     try clear c6
     try clear c9
     try clear c10
     try clear c10b0
     try clear p2
     obtain ⟨x8_3, rfl, HA, HK3, HB⟩ := hrel
     cases gk with
     | zero => exact absurd HA.out (by simp [spec_FindFactoring.l1])
     | succ k3 =>
      have H := HA.out
      clear HA
      simp only [spec_FindFactoring.l1] at H
      by_cases c11 : x8_3 ≤ (wrap64 ((a0.size : Int) / 2))
      rotate_left
      ·rw [if_neg c11] at H
       have c11b0 : decide (x8_3 ≤ (wrap64 ((a0.size : Int) / 2))) = false := decide_eq_false c11
       clear c11
       have H' := am H
       clear H
       go_wp2
       go_roundg k3
       case measure => have := HJ3.out; have := HK2.out; have := HK3.out; omega
       case rel => exact ⟨(wrap64 (x7_2 + 1)), zS, H', ⟨by have := HJ3.out; have := HK2.out; have := HK3.out; omega⟩, ⟨zB⟩⟩
      rw [if_pos c11] at H
      have c11b0 : decide (x8_3 ≤ (wrap64 ((a0.size : Int) / 2))) = true := decide_eq_true c11
      clear c11
      have H' := am H
      clear H
      go_wp2
      go_loopg [9] k3 (fun kq v9 w' => ∃ (x9_4 : Int), v9 = .int .i64 x9_4 ∧ Aside0 (spec_FindFactoring.l2 kq a0 (a0.size : Int) x7_2 x8_3 x9_4 = some (r1, r2, r3, r4)) ∧ Aside0 (kq ≤ k3) ∧ Aside0 (Below w.heap.size w w'))
      case atStart => exact ⟨(0), zS, H', ⟨Nat.le_refl _⟩, ⟨zB⟩⟩
      case round =>
       clear H'
       try clear c1
       try clear c2
       try clear p2
       try clear c3
       try clear c6
       try clear p6
       try clear c9
       try clear c10
       try clear c10b0
       try clear c11
       try clear c11b0
       try clear p2
       obtain ⟨x9_4, rfl, HA, HK4, HB⟩ := hrel
       cases gk with
       | zero => exact absurd HA.out (by simp [spec_FindFactoring.l2])
       | succ k4 =>
        have H := HA.out
        clear HA
        simp only [spec_FindFactoring.l2] at H
        by_cases c12 : (wrap64 (x8_3 + x9_4)) ≤ (wrap64 ((a0.size : Int) / 2))
        rotate_left
        ·rw [if_neg c12] at H
         have c12b0 : decide ((wrap64 (x8_3 + x9_4)) ≤ (wrap64 ((a0.size : Int) / 2))) = false := decide_eq_false c12
         clear c12
         have H' := am H
         clear H
         go_wp2
         go_roundg k4
         case measure => have := HJ3.out; have := HK2.out; have := HK3.out; have := HK4.out; omega
         case rel => exact ⟨(wrap64 (x8_3 + 1)), zS, H', ⟨by have := HJ3.out; have := HK2.out; have := HK3.out; have := HK4.out; omega⟩, ⟨zB⟩⟩
        rw [if_pos c12] at H
        have c12b0 : decide ((wrap64 (x8_3 + x9_4)) ≤ (wrap64 ((a0.size : Int) / 2))) = true := decide_eq_true c12
        clear c12
        replace H := ob H
        obtain ⟨t165, A130, H⟩ := H
        (try dsimp only at H)
        have A13 := am A130
        clear A130
        by_cases c14 : t165 = true
        ·subst c14
         have H1 : (some (x7_2, x8_3, x9_4, 0)) = some (r1, r2, r3, r4) := by first | (rw [if_pos rfl] at H; exact H) | rfl
         clear H
         have H := H1
         clear H1
         simp only [Option.some.injEq, Prod.mk.injEq] at H
         obtain ⟨rfl, rfl, rfl, rfl⟩ := H
         go_wp2_with (first | ((with_reducible refine gate_callee (f := 40) rfl ?_); refine goesL_ (some 46) rfl rfl Tryd.func40 (by kernel_rfl) rfl #[.string a0, .int .i64 x7_2, .int .i64 x8_3, .int .i64 x9_4] rfl zL ?_; (with_reducible refine (spec_l24Factors.calls k4 a0 x7_2 x8_3 x9_4 true _ A13.out).mono ?_); rintro e w15 ⟨rfl, hb⟩; refine ⟨_, rfl, ?_⟩; have n0_ := am (Bb6 zB hb); clear HB; have HB := n0_; clear n0_; (try clear hb); (try clear hb2); (try clear hk); (try clear hi)))
         refine bodyPost_ret (results_list (rs := [.tmp 2, .tmp 3, .tmp 4, .tmp 5]) rfl (by simp) (.tmp (.tmp (.tmp (.tmp .nil))))) rfl ?_
         exact ⟨zE, zB⟩
        replace c14 := ef c14
        subst c14
        have H1 : (spec_FindFactoring.l2 k4 a0 (a0.size : Int) x7_2 x8_3 (wrap64 (x9_4 + 1))) = some (r1, r2, r3, r4) := by first | (rw [if_neg (show ¬ (false = true) by decide)] at H; exact H) | rfl
        clear H
        have H := H1
        clear H1
        have H' := am H
        clear H
        go_wp2_with (first | ((with_reducible refine gate_callee (f := 40) rfl ?_); refine goesL_ (some 46) rfl rfl Tryd.func40 (by kernel_rfl) rfl #[.string a0, .int .i64 x7_2, .int .i64 x8_3, .int .i64 x9_4] rfl zL ?_; (with_reducible refine (spec_l24Factors.calls k4 a0 x7_2 x8_3 x9_4 false _ A13.out).mono ?_); rintro e w16 ⟨rfl, hb⟩; refine ⟨_, rfl, ?_⟩; have n0_ := am (Bb6 zB hb); clear HB; have HB := n0_; clear n0_; (try clear hb); (try clear hb2); (try clear hk); (try clear hi)))
        go_roundg k4
        case measure => have := HJ3.out; have := HK2.out; have := HK3.out; have := HK4.out; omega
        case rel => exact ⟨(wrap64 (x9_4 + 1)), zS, H', ⟨by have := HJ3.out; have := HK2.out; have := HK3.out; have := HK4.out; omega⟩, ⟨zB⟩⟩

end Go.Proofs.YtcgnnfaemjjljaaDoor.Q
