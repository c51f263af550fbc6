/- Written by a program of this session (wip/tools/pp.py) out of the translation, with the kit's printer. -/
import Derived.Test.YtcgnnfaemjjljaaDoorQ0
import Derived.Test.YtcgnnfaemjjljaaDoorQ4
import Derived.Test.YtcgnnfaemjjljaaDoorQGimplbackWord
import Derived.Test.YtcgnnfaemjjljaaDoorQ12
import Derived.Test.YtcgnnfaemjjljaaDoorQ13
namespace Go.Proofs.YtcgnnfaemjjljaaDoor.Q
open Go.RowKit Go.Proofs.YtcgnnfaemjjljaaDoorW.PrintWords Go.Proofs.YtcgnnfaemjjljaaDoorW.PrintLast Go.Proofs.YtcgnnfaemjjljaaDoorW.PrintMore
attribute [local go_sem] max2_int min2_int max_two min_two max_three min_three max_four min_four
set_option linter.unusedVariables false
set_option linter.unusedSimpArgs false

/-! ### impl_FindFactoring: function 22 -/
abbrev impl_FindFactoring.m0 : Array Bool := #[z',z',z',z',z',z',z',z',z',z',z']
abbrev impl_FindFactoring.m1 : Array Bool := #[o',z',z',z',z',z',z',z',z',z',z']
abbrev impl_FindFactoring.m2 : Array Bool := #[o',o',z',z',z',z',z',z',z',z',z']
abbrev impl_FindFactoring.m3 : Array Bool := #[o',o',o',z',z',z',z',z',z',z',z']
abbrev impl_FindFactoring.m4 : Array Bool := #[o',o',o',o',z',z',z',z',z',z',z']
abbrev impl_FindFactoring.m5 : Array Bool := #[o',o',o',o',o',z',z',z',z',z',z']
abbrev impl_FindFactoring.m6 : Array Bool := #[o',o',o',o',o',o',z',z',z',z',z']
abbrev impl_FindFactoring.m7 : Array Bool := #[o',o',o',o',o',o',o',z',z',z',z']
abbrev impl_FindFactoring.m8 : Array Bool := #[o',o',o',o',o',o',o',o',z',z',z']
abbrev impl_FindFactoring.m9 : Array Bool := #[o',o',o',o',o',o',o',o',o',z',z']
abbrev impl_FindFactoring.m10 : Array Bool := #[o',o',o',o',o',o',o',o',o',o',z']
abbrev impl_FindFactoring.m11 : Array Bool := #[o',o',o',o',o',o',o',o',o',o',o']
mutual
def impl_FindFactoring.j0 : Nat → ByteArray → Bool → Option (Int × Int × Int × Int)
 | 0, _, _ => none
 | k + 1, x0, x20 => if x20 = true then (some (0, 0, 0, 5)) else (impl_FindFactoring.l0 k x0 (wrap64 ((x0.size : Int) / 2)) (x0.size : Int) 0)
def impl_FindFactoring.l0 : Nat → ByteArray → Int → Int → Int → Option (Int × Int × Int × Int)
 | 0, _, _, _, _ => none
 | k + 1, x0, x6, x25, x26 => if x26 < x25 then (if 0 ≤ x26 then (if x26 ≤ (x0.size : Int) then (if (x0.extract (x26 : Int).toNat x0.size).size + (x0.extract 0 (x26 : Int).toNat).size ≤ 9223372036854775807 then (impl_FindFactoring.l1 k x0 x6 x26 ((x0.extract (x26 : Int).toNat x0.size) ++ (x0.extract 0 (x26 : Int).toNat)) 0 x25 x26) else (none)) else (none)) else (none)) else (some (0, 0, 0, 4))
def impl_FindFactoring.l1 : Nat → ByteArray → Int → Int → ByteArray → Int → Int → Int → Option (Int × Int × Int × Int)
 | 0, _, _, _, _, _, _, _ => none
 | k + 1, x0, x6, x7, x8, x9, x25, x26 => if x9 ≤ x6 then (if 0 ≤ x6 then (if x6 ≤ (wrap64 (x6 + x9)) then (if (wrap64 (x6 + x9)) ≤ (x8.size : Int) then (if 0 ≤ x9 then (if x9 ≤ (x8.size : Int) then ((impl_backWord.f (x8.extract 0 (x9 : Int).toNat)).bind fun t168 => (if (x8.extract (x6 : Int).toNat ((wrap64 (x6 + x9)) : Int).toNat).toList = t168.toList then (impl_FindFactoring.l2 k x0 x6 x7 x8 x9 0 x25 x26) else (impl_FindFactoring.l1 k x0 x6 x7 x8 (wrap64 (x9 + 1)) x25 x26))) else (none)) else (none)) else (none)) else (none)) else (none)) else (impl_FindFactoring.l0 k x0 x6 x25 (wrap64 (x26 + 1)))
def impl_FindFactoring.l2 : Nat → ByteArray → Int → Int → ByteArray → Int → Int → Int → Int → Option (Int × Int × Int × Int)
 | 0, _, _, _, _, _, _, _, _ => none
 | k + 1, x0, x6, x7, x8, x9, x10, x25, x26 => if (wrap64 (x9 + x10)) ≤ x6 then ((impl_isFactoring.f k x8 x9 x10).bind fun t169 => (if t169 = true then (some (x7, x9, x10, 0)) else (impl_FindFactoring.l2 k x0 x6 x7 x8 x9 (wrap64 (x10 + 1)) x25 x26))) else (impl_FindFactoring.l1 k x0 x6 x7 x8 (wrap64 (x9 + 1)) x25 x26)
end
def impl_FindFactoring.f (k : Nat) (a0 : ByteArray) : Option (Int × Int × Int × Int) := (impl_isWord.f a0).bind fun t166 => (if t166 = true then ((impl_isClosed.f a0).bind fun t167 => (if t167 = true then (impl_FindFactoring.j0 k a0 (a0.toList == ([] : List UInt8))) else (impl_FindFactoring.j0 k a0 true))) else (some (0, 0, 0, 6)))
theorem impl_FindFactoring.mono_l : ∀ k, (∀ y0 y1, LeO (impl_FindFactoring.j0 k y0 y1) (impl_FindFactoring.j0 (k + 1) y0 y1)) ∧ (∀ y0 y1 y2 y3, LeO (impl_FindFactoring.l0 k y0 y1 y2 y3) (impl_FindFactoring.l0 (k + 1) y0 y1 y2 y3)) ∧ (∀ y0 y1 y2 y3 y4 y5 y6, LeO (impl_FindFactoring.l1 k y0 y1 y2 y3 y4 y5 y6) (impl_FindFactoring.l1 (k + 1) y0 y1 y2 y3 y4 y5 y6)) ∧ (∀ y0 y1 y2 y3 y4 y5 y6 y7, LeO (impl_FindFactoring.l2 k y0 y1 y2 y3 y4 y5 y6 y7) (impl_FindFactoring.l2 (k + 1) y0 y1 y2 y3 y4 y5 y6 y7))
 | 0 => ⟨fun _ _ r h => by simp [impl_FindFactoring.j0] at h, fun _ _ _ _ r h => by simp [impl_FindFactoring.l0] at h, fun _ _ _ _ _ _ _ r h => by simp [impl_FindFactoring.l1] at h, fun _ _ _ _ _ _ _ _ r h => by simp [impl_FindFactoring.l2] at h⟩
 | k + 1 => by
  obtain ⟨ih0, ih1, ih2, ih3⟩ := impl_FindFactoring.mono_l k
  refine ⟨?_, ?_, ?_, ?_⟩
  ·intro y0 y1
   unfold impl_FindFactoring.j0
   repeat' first
   | (with_reducible exact ih0 _ _)
   | (with_reducible exact ih1 _ _ _ _)
   | (with_reducible exact ih2 _ _ _ _ _ _ _)
   | (with_reducible exact ih3 _ _ _ _ _ _ _ _)
   | (with_reducible exact impl_isFactoring.mono _ _ _ _)
   | (with_reducible exact LeO.refl _)
   | (with_reducible exact LeO.none _)
   | (with_reducible refine LeO.ite ?_ ?_)
   | (with_reducible refine LeO.bind ?_ (fun _ => ?_))
   | exact ih0 _ _
   | exact ih1 _ _ _ _
   | exact ih2 _ _ _ _ _ _ _
   | exact ih3 _ _ _ _ _ _ _ _
   | exact impl_isFactoring.mono _ _ _ _
   | exact LeO.none _
   | refine LeO.ite ?_ ?_
   | refine LeO.bind ?_ (fun _ => ?_)
  ·intro y0 y1 y2 y3
   unfold impl_FindFactoring.l0
   repeat' first
   | (with_reducible exact ih0 _ _)
   | (with_reducible exact ih1 _ _ _ _)
   | (with_reducible exact ih2 _ _ _ _ _ _ _)
   | (with_reducible exact ih3 _ _ _ _ _ _ _ _)
   | (with_reducible exact impl_isFactoring.mono _ _ _ _)
   | (with_reducible exact LeO.refl _)
   | (with_reducible exact LeO.none _)
   | (with_reducible refine LeO.ite ?_ ?_)
   | (with_reducible refine LeO.bind ?_ (fun _ => ?_))
   | exact ih0 _ _
   | exact ih1 _ _ _ _
   | exact ih2 _ _ _ _ _ _ _
   | exact ih3 _ _ _ _ _ _ _ _
   | exact impl_isFactoring.mono _ _ _ _
   | exact LeO.none _
   | refine LeO.ite ?_ ?_
   | refine LeO.bind ?_ (fun _ => ?_)
  ·intro y0 y1 y2 y3 y4 y5 y6
   unfold impl_FindFactoring.l1
   repeat' first
   | (with_reducible exact ih0 _ _)
   | (with_reducible exact ih1 _ _ _ _)
   | (with_reducible exact ih2 _ _ _ _ _ _ _)
   | (with_reducible exact ih3 _ _ _ _ _ _ _ _)
   | (with_reducible exact impl_isFactoring.mono _ _ _ _)
   | (with_reducible exact LeO.refl _)
   | (with_reducible exact LeO.none _)
   | (with_reducible refine LeO.ite ?_ ?_)
   | (with_reducible refine LeO.bind ?_ (fun _ => ?_))
   | exact ih0 _ _
   | exact ih1 _ _ _ _
   | exact ih2 _ _ _ _ _ _ _
   | exact ih3 _ _ _ _ _ _ _ _
   | exact impl_isFactoring.mono _ _ _ _
   | exact LeO.none _
   | refine LeO.ite ?_ ?_
   | refine LeO.bind ?_ (fun _ => ?_)
  ·intro y0 y1 y2 y3 y4 y5 y6 y7
   unfold impl_FindFactoring.l2
   repeat' first
   | (with_reducible exact ih0 _ _)
   | (with_reducible exact ih1 _ _ _ _)
   | (with_reducible exact ih2 _ _ _ _ _ _ _)
   | (with_reducible exact ih3 _ _ _ _ _ _ _ _)
   | (with_reducible exact impl_isFactoring.mono _ _ _ _)
   | (with_reducible exact LeO.refl _)
   | (with_reducible exact LeO.none _)
   | (with_reducible refine LeO.ite ?_ ?_)
   | (with_reducible refine LeO.bind ?_ (fun _ => ?_))
   | exact ih0 _ _
   | exact ih1 _ _ _ _
   | exact ih2 _ _ _ _ _ _ _
   | exact ih3 _ _ _ _ _ _ _ _
   | exact impl_isFactoring.mono _ _ _ _
   | exact LeO.none _
   | refine LeO.ite ?_ ?_
   | refine LeO.bind ?_ (fun _ => ?_)
theorem impl_FindFactoring.mono : ∀ a0 k, LeO (impl_FindFactoring.f k a0) (impl_FindFactoring.f (k + 1) a0) := by
 intro a0 k
 obtain ⟨ih0, ih1, ih2, ih3⟩ := impl_FindFactoring.mono_l k
 unfold impl_FindFactoring.f
 repeat' first
   | (with_reducible exact ih0 _ _)
   | (with_reducible exact ih1 _ _ _ _)
   | (with_reducible exact ih2 _ _ _ _ _ _ _)
   | (with_reducible exact ih3 _ _ _ _ _ _ _ _)
   | (with_reducible exact impl_isFactoring.mono _ _ _ _)
   | (with_reducible exact LeO.refl _)
   | (with_reducible exact LeO.none _)
   | (with_reducible refine LeO.ite ?_ ?_)
   | (with_reducible refine LeO.bind ?_ (fun _ => ?_))
   | exact ih0 _ _
   | exact ih1 _ _ _ _
   | exact ih2 _ _ _ _ _ _ _
   | exact ih3 _ _ _ _ _ _ _ _
   | exact impl_isFactoring.mono _ _ _ _
   | exact LeO.none _
   | refine LeO.ite ?_ ?_
   | refine LeO.bind ?_ (fun _ => ?_)
def impl_FindFactoring.T9 : Bool × List (List Nat × List Nat) := (true, [([], []), ([], []), ([0, 1], [0, 1]), ([], []), ([], []), ([3, 4], [3, 4]), ([2, 5], [2, 5]), ([6, 0, 1, 2, 3, 4, 5, 6], [6])])
def impl_FindFactoring.B9 : List Nat := [0, 0, 3, 0, 0, 24, 63, 127]
theorem impl_FindFactoring.tab9 : rtab .any (opsOf Tryd.f22 9) = impl_FindFactoring.T9 := by kernel_rfl
theorem impl_FindFactoring.bits9 : waitsOk impl_FindFactoring.T9.2 impl_FindFactoring.B9 = true := by kernel_rfl
def impl_FindFactoring.T13 : Bool × List (List Nat × List Nat) := (true, [([], []), ([], []), ([], []), ([], []), ([2, 3], [2, 3]), ([0, 1, 4], [0, 1, 4]), ([], []), ([], []), ([6, 7], [6, 7]), ([8], [8]), ([5, 9], [5, 9])])
def impl_FindFactoring.B13 : List Nat := [0, 0, 0, 0, 12, 31, 0, 0, 192, 448, 1023]
theorem impl_FindFactoring.tab13 : rtab .any (opsOf Tryd.f22 13) = impl_FindFactoring.T13 := by kernel_rfl
theorem impl_FindFactoring.bits13 : waitsOk impl_FindFactoring.T13.2 impl_FindFactoring.B13 = true := by kernel_rfl
set_option maxHeartbeats 8000000 in
set_option maxRecDepth 100000 in
theorem impl_FindFactoring.calls (k : Nat) (a0 : ByteArray) (r1 : Int) (r2 : Int) (r3 : Int) (r4 : Int) (w : World) (h : impl_FindFactoring.f k a0 = some (r1, r2, r3, r4)) :
  Calls Tryd.prog 22 #[.string a0] w fun e w' => e = .returned (.tuple #[.int .i64 r1, .int .i64 r2, .int .i64 r3, .int .i64 r4]) ∧ Below w.heap.size w w' := by
 have HB := am (Below.refl w.heap.size w)
 have H : ((impl_isWord.f a0).bind fun t166 => (if t166 = true then ((impl_isClosed.f a0).bind fun t167 => (if t167 = true then (impl_FindFactoring.j0 k a0 (a0.toList == ([] : List UInt8))) else (impl_FindFactoring.j0 k a0 true))) else (some (0, 0, 0, 6)))) = some (r1, r2, r3, r4) := h
 clear h
 replace H := ob H
 obtain ⟨t166, A20, H⟩ := H
 (try dsimp only at H)
 have A2 := am A20
 clear A20
 by_cases c3 : t166 = true
 rotate_left
 ·replace c3 := ef c3
  subst c3
  have H1 : (some (0, 0, 0, 6)) = some (r1, r2, r3, r4) := by first | (rw [if_neg (show ¬ (false = true) by decide)] at H; exact H) | rfl
  clear H
  have H := H1
  clear H1
  simp only [Option.some.injEq, Prod.mk.injEq] at H
  obtain ⟨rfl, rfl, rfl, rfl⟩ := H
  go_enter Tryd.func22, Tryd.ntmps22
  go_wp2_with (first | ((with_reducible refine gate_callee (f := 30) rfl ?_); refine goesL_ (some 12) rfl rfl Tryd.func30 (by kernel_rfl) rfl #[.string a0] rfl zL ?_; (with_reducible refine (impl_isWord.calls a0 false _ A2.out).mono ?_); rintro e w34 ⟨rfl, hb⟩; refine ⟨_, rfl, ?_⟩; have n0_ := am (Bb6 zB hb); clear HB; have HB := n0_; clear n0_; (try clear hb); (try clear hb2); (try clear hk); (try clear hi)))
  refine bodyPost_ret (results_list (rs := [.tmp 2, .tmp 3, .tmp 4, .tmp 5]) rfl (by simp) (.tmp (.tmp (.tmp (.tmp .nil))))) rfl ?_
  exact ⟨zE, zB⟩
 subst c3
 have H1 : ((impl_isClosed.f a0).bind fun t167 => (if t167 = true then (impl_FindFactoring.j0 k a0 (a0.toList == ([] : List UInt8))) else (impl_FindFactoring.j0 k a0 true))) = some (r1, r2, r3, r4) := by first | (rw [if_pos rfl] at H; exact H) | rfl
 clear H
 have H := H1
 clear H1
 have HC4 := am H
 clear H
 go_enter Tryd.func22, Tryd.ntmps22
 go_upto_region 3 with (first | ((with_reducible refine gate_callee (f := 30) rfl ?_); refine goesL_ (some 12) rfl rfl Tryd.func30 (by kernel_rfl) rfl #[.string a0] rfl zL ?_; (with_reducible refine (impl_isWord.calls a0 true _ A2.out).mono ?_); rintro e w5 ⟨rfl, hb⟩; refine ⟨_, rfl, ?_⟩; have n0_ := am (Bb6 zB hb); clear HB; have HB := n0_; clear n0_; (try clear hb); (try clear hb2); (try clear hk); (try clear hi)))
 (try simp only [Act.put, sa])
 go_cut [20] (fun v20 wc => ∃ (kq : Nat) (x20_3 : Bool), v20 = .bool x20_3 ∧ Aside0 (impl_FindFactoring.j0 kq a0 x20_3 = some (r1, r2, r3, r4)) ∧ Aside0 (kq ≤ k) ∧ Aside0 (Below w.heap.size w wc))
 case first =>
  have H := HC4.out
  clear HC4
  replace H := ob H
  obtain ⟨t167, A60, H⟩ := H
  (try dsimp only at H)
  have A6 := am A60
  clear A60
  by_cases c7 : t167 = true
  ·subst c7
   have H1 : (impl_FindFactoring.j0 k a0 (a0.toList == ([] : List UInt8))) = some (r1, r2, r3, r4) := by first | (rw [if_pos rfl] at H; exact H) | rfl
   clear H
   have H := H1
   clear H1
   have H' := am H
   clear H
   go_wp2_with (first | ((with_reducible refine gate_callee (f := 36) rfl ?_); refine goesL_ (some 15) rfl rfl Tryd.func36 (by kernel_rfl) rfl #[.string a0] rfl zL ?_; (with_reducible refine (impl_isClosed.calls a0 true _ A6.out).mono ?_); rintro e w' ⟨rfl, ⟨nd, rfl⟩⟩; refine ⟨_, rfl, ?_⟩))
   go_meet
   case rel => exact ⟨_, ((a0.toList == ([] : List UInt8))), zS, H', ⟨by first | omega | exact Nat.le_refl _⟩, ⟨zB⟩⟩
  replace c7 := ef c7
  subst c7
  have H1 : (impl_FindFactoring.j0 k a0 true) = some (r1, r2, r3, r4) := by first | (rw [if_neg (show ¬ (false = true) by decide)] at H; exact H) | rfl
  clear H
  have H := H1
  clear H1
  have H' := am H
  clear H
  go_wp2_with (first | ((with_reducible refine gate_callee (f := 36) rfl ?_); refine goesL_ (some 15) rfl rfl Tryd.func36 (by kernel_rfl) rfl #[.string a0] rfl zL ?_; (with_reducible refine (impl_isClosed.calls a0 false _ A6.out).mono ?_); rintro e w' ⟨rfl, ⟨nd, rfl⟩⟩; refine ⟨_, rfl, ?_⟩))
  go_meet
  case rel => exact ⟨_, (true), zS, H', ⟨by first | omega | exact Nat.le_refl _⟩, ⟨zB⟩⟩
 clear HC4
 try clear c2
 try clear p2
 try clear c3
 try clear c7
 obtain ⟨kq, x20_3, rfl, HA, HJ3, HB⟩ := hcut
 cases kq with
 | zero => exact absurd HA.out (by simp [impl_FindFactoring.j0])
 | succ kj3 =>
  have H := HA.out
  clear HA
  simp only [impl_FindFactoring.j0] at H
  by_cases c8 : x20_3 = true
  ·subst c8
   have H1 : (some (0, 0, 0, 5)) = some (r1, r2, r3, r4) := by first | (rw [if_pos rfl] at H; exact H) | rfl
   clear H
   have H := H1
   clear H1
   simp only [Option.some.injEq, Prod.mk.injEq] at H
   obtain ⟨rfl, rfl, rfl, rfl⟩ := H
   go_wp2
   refine bodyPost_ret (results_list (rs := [.tmp 2, .tmp 3, .tmp 4, .tmp 5]) rfl (by simp) (.tmp (.tmp (.tmp (.tmp .nil))))) rfl ?_
   exact ⟨zE, zB⟩
  replace c8 := ef c8
  subst c8
  have H1 : (impl_FindFactoring.l0 kj3 a0 (wrap64 ((a0.size : Int) / 2)) (a0.size : Int) 0) = some (r1, r2, r3, r4) := by first | (rw [if_neg (show ¬ (false = true) by decide)] at H; exact H) | rfl
  clear H
  have H := H1
  clear H1
  have H' := am H
  clear H
  go_wp2
  go_loopg [26] kj3 (fun kq v26 w' => ∃ (x26_2 : Int), v26 = .int .i64 x26_2 ∧ Aside0 (impl_FindFactoring.l0 kq a0 (wrap64 ((a0.size : Int) / 2)) (a0.size : Int) x26_2 = some (r1, r2, r3, r4)) ∧ Aside0 (kq ≤ kj3) ∧ Aside0 (Below w.heap.size w w'))
  case atStart => exact ⟨(0), zS, H', ⟨Nat.le_refl _⟩, ⟨zB⟩⟩
  case round =>
   clear H'
   try clear c2
   try clear p2
   try clear c3
   try clear p6
   try clear c7
   try clear c8
   try clear p2
   obtain ⟨x26_2, rfl, HA, HK2, HB⟩ := hrel
   cases gk with
   | zero => exact absurd HA.out (by simp [impl_FindFactoring.l0])
   | succ k2 =>
    have H := HA.out
    clear HA
    simp only [impl_FindFactoring.l0] at H
    by_cases c9 : x26_2 < (a0.size : Int)
    rotate_left
    ·rw [if_neg c9] at H
     have c9b0 : decide (x26_2 < (a0.size : Int)) = false := decide_eq_false c9
     clear c9
     simp only [Option.some.injEq, Prod.mk.injEq] at H
     obtain ⟨rfl, rfl, rfl, rfl⟩ := H
     go_wp2
     refine bodyPost_ret (results_list (rs := [.tmp 2, .tmp 3, .tmp 4, .tmp 5]) rfl (by simp) (.tmp (.tmp (.tmp (.tmp .nil))))) rfl ?_
     exact ⟨zE, zB⟩
    rw [if_pos c9] at H
    have c9b0 : decide (x26_2 < (a0.size : Int)) = true := decide_eq_true c9
    clear c9
    by_cases c10 : 0 ≤ x26_2
    rotate_left
    ·rw [if_neg c10] at H
     exact absurd H (by simp)
    rw [if_pos c10] at H
    have c10b0 := eq_true c10
    have c10b1 : decide (0 ≤ x26_2) = true := decide_eq_true c10
    clear c10
    by_cases c11 : x26_2 ≤ (a0.size : Int)
    rotate_left
    ·rw [if_neg c11] at H
     exact absurd H (by simp)
    rw [if_pos c11] at H
    have c11b0 := eq_true c11
    have c11b1 : decide (x26_2 ≤ (a0.size : Int)) = true := decide_eq_true c11
    clear c11
    have c12b0 := eq_true (zD : 0 ≤ x26_2)
    have c13b0 := eq_true (zD : x26_2 ≤ (a0.size : Int))
    by_cases c14 : (a0.extract (x26_2 : Int).toNat a0.size).size + (a0.extract 0 (x26_2 : Int).toNat).size ≤ 9223372036854775807
    rotate_left
    ·rw [if_neg c14] at H
     exact absurd H (by simp)
    rw [if_pos c14] at H
    have c14b0 := eq_true c14
    have c14b1 : decide ((a0.extract (x26_2 : Int).toNat a0.size).size + (a0.extract 0 (x26_2 : Int).toNat).size ≤ 9223372036854775807) = true := decide_eq_true c14
    try have c14b2 : (9223372036854775807 < (a0.extract (x26_2 : Int).toNat a0.size).size + (a0.extract 0 (x26_2 : Int).toNat).size) = False := eq_false (Nat.not_lt.2 c14)
    try have c14b9 : (9223372036854775807 < a0.size) = False := eq_false (by have h9_ := c14; simp only [ByteArray.size_extract] at h9_; omega)
    have H' := am H
    clear H
    try go_wp2
    have n0_ := am (Bb3 HB.out)
    clear HB
    have HB := n0_
    clear n0_
    refine start_ (n := 8) (S := fun w' => True) (ds := []) #[z',z',z',z',z',z',z',z'] (by kernel_rfl) rfl rfl trivial (fun hHeld => ?_); refine with_tabW impl_FindFactoring.tab9 impl_FindFactoring.bits9 (fun HT_ HW_ => ?_)
    generalize wr.drew = w15 at HB hHeld ⊢
    refine pure_ (i := 0) (N := some 29) (v := ?_) (a' := ?_) #[o',z',z',z',z',z',z',z'] rfl rfl zA (fun _ _ _ h => h) (Or.inl ⟨by rfl, ?_⟩) ?_ ?_
    rotate_left
    ·intro w'
     go_simp
     with_reducible rfl
    rotate_left
    ·exact zP
    refine pure_ (i := 1) (N := some 30) (v := ?_) (a' := ?_) #[o',o',z',z',z',z',z',z'] rfl rfl zA (fun _ _ _ h => h) (Or.inl ⟨by rfl, ?_⟩) ?_ ?_
    rotate_left
    ·intro w'
     go_simp
     with_reducible rfl
    rotate_left
    ·exact zP
    refine pure_ (i := 2) (N := some 31) (v := ?_) (a' := ?_) #[o',o',o',z',z',z',z',z'] rfl rfl zA (fun _ _ _ h => h) (Or.inl ⟨by rfl, ?_⟩) ?_ ?_
    rotate_left
    ·intro w'
     go_simp
     with_reducible rfl
    rotate_left
    ·exact zP
    refine pure_ (i := 3) (N := some 32) (v := ?_) (a' := ?_) #[o',o',o',o',z',z',z',z'] rfl rfl zA (fun _ _ _ h => h) (Or.inl ⟨by rfl, ?_⟩) ?_ ?_
    rotate_left
    ·intro w'
     go_simp
     with_reducible rfl
    rotate_left
    ·exact zP
    refine pure_ (i := 4) (N := some 33) (v := ?_) (a' := ?_) #[o',o',o',o',o',z',z',z'] rfl rfl zA (fun _ _ _ h => h) (Or.inl ⟨by rfl, ?_⟩) ?_ ?_
    rotate_left
    ·intro w'
     go_simp
     with_reducible rfl
    rotate_left
    ·exact zP
    refine pure_ (i := 5) (N := some 34) (v := ?_) (a' := ?_) #[o',o',o',o',o',o',z',z'] rfl rfl zA (fun _ _ _ h => h) (Or.inl ⟨by rfl, ?_⟩) ?_ ?_
    rotate_left
    ·intro w'
     go_simp
     with_reducible rfl
    rotate_left
    ·exact zP
    refine pure_ (i := 6) (N := some 35) (v := ?_) (a' := ?_) #[o',o',o',o',o',o',o',z'] rfl rfl zA (fun _ _ _ h => h) (Or.inl ⟨by rfl, ?_⟩) ?_ ?_
    rotate_left
    ·intro w'
     go_simp
     with_reducible rfl
    rotate_left
    ·exact zP
    refine pure_ (i := 7) (N := some 8) (v := ?_) (a' := ?_) #[o',o',o',o',o',o',o',o'] rfl rfl zA (fun _ _ _ h => h) (Or.inl ⟨by rfl, ?_⟩) ?_ ?_
    rotate_left
    ·intro w'
     go_simp
     with_reducible rfl
    rotate_left
    ·exact zP
    refine done_ (done_of HT_.out (by kernel_rfl)) ?_
    try go_wp2
    go_loopg [9] k2 (fun kq v9 w' => ∃ (x9_3 : Int), v9 = .int .i64 x9_3 ∧ Aside0 (impl_FindFactoring.l1 kq a0 (wrap64 ((a0.size : Int) / 2)) x26_2 ((a0.extract (x26_2 : Int).toNat a0.size) ++ (a0.extract 0 (x26_2 : Int).toNat)) x9_3 (a0.size : Int) x26_2 = some (r1, r2, r3, r4)) ∧ Aside0 (kq ≤ k2) ∧ Aside0 (Below w.heap.size w w'))
    case atStart => exact ⟨(0), zS, H', ⟨Nat.le_refl _⟩, ⟨zB⟩⟩
    case round =>
     clear H'
     try clear c1
     try clear c2
     try clear p2
     try clear c3
     try clear p6
     try clear c7
     try clear c8
     try clear c9
     try clear c9b0
     try clear c10
     try clear c10b0
     try clear c10b1
     try clear c11
     try clear c11b0
     try clear c11b1
     try clear c12
     try clear c12b0
     try clear c13
     try clear c13b0
     try clear c14
     try clear c14b0
     try clear c14b1
     try clear c14b2
     try clear p2
     try clear p6
     obtain ⟨x9_3, rfl, HA, HK3, HB⟩ := hrel
     cases gk with
     | zero => exact absurd HA.out (by simp [impl_FindFactoring.l1])
     | succ k3 =>
      have H := HA.out
      clear HA
      simp only [impl_FindFactoring.l1] at H
      by_cases c16 : x9_3 ≤ (wrap64 ((a0.size : Int) / 2))
      rotate_left
      ·rw [if_neg c16] at H
       have c16b0 : decide (x9_3 ≤ (wrap64 ((a0.size : Int) / 2))) = false := decide_eq_false c16
       clear c16
       have H' := am H
       clear H
       go_wp2
       (try subst hji17)
       go_roundg k3
       case measure => have := HJ3.out; have := HK2.out; have := HK3.out; omega
       case rel => exact ⟨(wrap64 (x26_2 + 1)), zS, H', ⟨by have := HJ3.out; have := HK2.out; have := HK3.out; omega⟩, ⟨zB⟩⟩
      rw [if_pos c16] at H
      have c16b0 : decide (x9_3 ≤ (wrap64 ((a0.size : Int) / 2))) = true := decide_eq_true c16
      clear c16
      obtain ⟨ji17, hji17⟩ : ∃ j_ : Int, (wrap64 ((a0.size : Int) / 2)) = j_ := ⟨_, rfl⟩
      replace H : (if 0 ≤ (ji17) then (if (ji17) ≤ (wrap64 ((ji17) + x9_3)) then (if (wrap64 ((ji17) + x9_3)) ≤ (((a0.extract (x26_2 : Int).toNat a0.size) ++ (a0.extract 0 (x26_2 : Int).toNat)).size : Int) then (if 0 ≤ x9_3 then (if x9_3 ≤ (((a0.extract (x26_2 : Int).toNat a0.size) ++ (a0.extract 0 (x26_2 : Int).toNat)).size : Int) then ((impl_backWord.f (((a0.extract (x26_2 : Int).toNat a0.size) ++ (a0.extract 0 (x26_2 : Int).toNat)).extract 0 (x9_3 : Int).toNat)).bind fun t168 => (if (((a0.extract (x26_2 : Int).toNat a0.size) ++ (a0.extract 0 (x26_2 : Int).toNat)).extract ((ji17) : Int).toNat ((wrap64 ((ji17) + x9_3)) : Int).toNat).toList = t168.toList then (impl_FindFactoring.l2 k3 a0 (ji17) x26_2 ((a0.extract (x26_2 : Int).toNat a0.size) ++ (a0.extract 0 (x26_2 : Int).toNat)) x9_3 0 (a0.size : Int) x26_2) else (impl_FindFactoring.l1 k3 a0 (ji17) x26_2 ((a0.extract (x26_2 : Int).toNat a0.size) ++ (a0.extract 0 (x26_2 : Int).toNat)) (wrap64 (x9_3 + 1)) (a0.size : Int) x26_2))) else (none)) else (none)) else (none)) else (none)) else (none)) = some (r1, r2, r3, r4) := by first | (rw [hji17] at H; exact H) | (simp only [hji17] at H ⊢; exact H)
      (try rw [hji17] at c16b0)
      have hji17w : (IntKind.i64.wrap ((a0.size : Int) / 2)) = ji17 := (i64_w _).trans hji17
      by_cases c18 : 0 ≤ (ji17)
      rotate_left
      ·rw [if_neg c18] at H
       exact absurd H (by simp)
      rw [if_pos c18] at H
      have c18b0 := eq_true c18
      have c18b1 : decide (0 ≤ (ji17)) = true := decide_eq_true c18
      clear c18
      by_cases c19 : (ji17) ≤ (wrap64 ((ji17) + x9_3))
      rotate_left
      ·rw [if_neg c19] at H
       exact absurd H (by simp)
      rw [if_pos c19] at H
      have c19b0 := eq_true c19
      have c19b1 : decide ((ji17) ≤ (wrap64 ((ji17) + x9_3))) = true := decide_eq_true c19
      by_cases c20 : (wrap64 ((ji17) + x9_3)) ≤ (((a0.extract (x26_2 : Int).toNat a0.size) ++ (a0.extract 0 (x26_2 : Int).toNat)).size : Int)
      rotate_left
      ·rw [if_neg c20] at H
       exact absurd H (by simp)
      rw [if_pos c20] at H
      have c20b0 := eq_true c20
      have c20b1 : decide ((wrap64 ((ji17) + x9_3)) ≤ (((a0.extract (x26_2 : Int).toNat a0.size) ++ (a0.extract 0 (x26_2 : Int).toNat)).size : Int)) = true := decide_eq_true c20
      try have c20b9 : ((wrap64 ((ji17) + x9_3)) ≤ (a0.size : Int)) = True := eq_true (by have h9_ := c20; simp only [ByteArray.size_append, ByteArray.size_extract] at h9_; omega)
      try (have c20b7 : ((a0.extract (x26_2 : Int).toNat a0.size) ++ (a0.extract 0 (x26_2 : Int).toNat)).size = a0.size := (by simp only [ByteArray.size_append, ByteArray.size_extract]; omega); simp at c20b7)
      by_cases c21 : 0 ≤ x9_3
      rotate_left
      ·rw [if_neg c21] at H
       exact absurd H (by simp)
      rw [if_pos c21] at H
      have c21b0 := eq_true c21
      have c21b1 : decide (0 ≤ x9_3) = true := decide_eq_true c21
      clear c21
      by_cases c22 : x9_3 ≤ (((a0.extract (x26_2 : Int).toNat a0.size) ++ (a0.extract 0 (x26_2 : Int).toNat)).size : Int)
      rotate_left
      ·rw [if_neg c22] at H
       exact absurd H (by simp)
      rw [if_pos c22] at H
      have c22b0 := eq_true c22
      have c22b1 : decide (x9_3 ≤ (((a0.extract (x26_2 : Int).toNat a0.size) ++ (a0.extract 0 (x26_2 : Int).toNat)).size : Int)) = true := decide_eq_true c22
      try have c22b9 : (x9_3 ≤ (a0.size : Int)) = True := eq_true (by have h9_ := c22; simp only [ByteArray.size_append, ByteArray.size_extract] at h9_; omega)
      try (have c22b7 : ((a0.extract (x26_2 : Int).toNat a0.size) ++ (a0.extract 0 (x26_2 : Int).toNat)).size = a0.size := (by simp only [ByteArray.size_append, ByteArray.size_extract]; omega); simp at c22b7)
      replace H := ob H
      obtain ⟨t168, A230, H⟩ := H
      (try dsimp only at H)
      have A23 := am A230
      clear A230
      by_cases c24 : (((a0.extract (x26_2 : Int).toNat a0.size) ++ (a0.extract 0 (x26_2 : Int).toNat)).extract ((ji17) : Int).toNat ((wrap64 ((ji17) + x9_3)) : Int).toNat).toList = t168.toList
      rotate_left
      ·rw [if_neg c24] at H
       have c24b0 : ((((a0.extract (x26_2 : Int).toNat a0.size) ++ (a0.extract 0 (x26_2 : Int).toNat)).extract ((ji17) : Int).toNat ((wrap64 ((ji17) + x9_3)) : Int).toNat).toList == t168.toList) = false := beq_eq_false_iff_ne.mpr c24
       have c24b1 : ((((a0.extract (x26_2 : Int).toNat a0.size) ++ (a0.extract 0 (x26_2 : Int).toNat)).extract ((ji17) : Int).toNat ((wrap64 ((ji17) + x9_3)) : Int).toNat).toList != t168.toList) = true := bne_iff_ne.mpr c24
       have H' := am H
       clear H
       try go_wp2
       have n0_ := am (Bb3 HB.out)
       clear HB
       have HB := n0_
       clear n0_
       refine start_ (n := 11) (S := fun w' => True) (ds := []) impl_FindFactoring.m0 (by kernel_rfl) rfl rfl trivial (fun hHeld => ?_); refine with_tabW impl_FindFactoring.tab13 impl_FindFactoring.bits13 (fun HT_ HW_ => ?_)
       generalize wr.drew = w32 at HB hHeld ⊢
       refine pure_ (i := 0) (N := some 41) (v := ?_) (a' := ?_) impl_FindFactoring.m1 rfl rfl zA (fun _ _ _ h => h) (Or.inl ⟨by rfl, ?_⟩) ?_ ?_
       rotate_left
       ·intro w'
        go_simp
        with_reducible rfl
       rotate_left
       ·exact zP
       refine pure_ (i := 1) (N := some 42) (v := ?_) (a' := ?_) impl_FindFactoring.m2 rfl rfl zA (fun _ _ _ h => h) (Or.inl ⟨by rfl, ?_⟩) ?_ ?_
       rotate_left
       ·intro w'
        go_simp
        with_reducible rfl
       rotate_left
       ·exact zP
       refine pure_ (i := 2) (N := some 43) (v := ?_) (a' := ?_) impl_FindFactoring.m3 rfl rfl zA (fun _ _ _ h => h) (Or.inl ⟨by rfl, ?_⟩) ?_ ?_
       rotate_left
       ·intro w'
        go_simp
        with_reducible rfl
       rotate_left
       ·exact zP
       refine pure_ (i := 3) (N := some 44) (v := ?_) (a' := ?_) impl_FindFactoring.m4 rfl rfl zA (fun _ _ _ h => h) (Or.inl ⟨by rfl, ?_⟩) ?_ ?_
       rotate_left
       ·intro w'
        go_simp
        with_reducible rfl
       rotate_left
       ·exact zP
       refine pure_ (i := 4) (N := some 45) (v := ?_) (a' := ?_) impl_FindFactoring.m5 rfl rfl zA (fun _ _ _ h => h) (Or.inl ⟨by rfl, ?_⟩) ?_ ?_
       rotate_left
       ·intro w'
        go_simp
        with_reducible rfl
       rotate_left
       ·exact zP
       refine pure_ (i := 5) (N := some 46) (v := ?_) (a' := ?_) impl_FindFactoring.m6 rfl rfl zA (fun _ _ _ h => h) (Or.inl ⟨by rfl, ?_⟩) ?_ ?_
       rotate_left
       ·intro w'
        go_simp
        with_reducible rfl
       rotate_left
       ·exact zP
       refine pure_ (i := 6) (N := some 47) (v := ?_) (a' := ?_) impl_FindFactoring.m7 rfl rfl zA (fun _ _ _ h => h) (Or.inl ⟨by rfl, ?_⟩) ?_ ?_
       rotate_left
       ·intro w'
        go_simp
        with_reducible rfl
       rotate_left
       ·exact zP
       refine pure_ (i := 7) (N := some 48) (v := ?_) (a' := ?_) impl_FindFactoring.m8 rfl rfl zA (fun _ _ _ h => h) (Or.inl ⟨by rfl, ?_⟩) ?_ ?_
       rotate_left
       ·intro w'
        go_simp
        with_reducible rfl
       rotate_left
       ·exact zP
       refine pure_ (i := 8) (N := some 49) (v := ?_) (a' := ?_) impl_FindFactoring.m9 rfl rfl zA (fun _ _ _ h => h) (Or.inl ⟨by rfl, ?_⟩) ?_ ?_
       rotate_left
       ·intro w'
        go_simp
        with_reducible rfl
       rotate_left
       ·exact zP
       refine one_ (i := 9) (N := some 50) impl_FindFactoring.m10 rfl rfl (one_of HT_.out (by kernel_rfl)) (by decide) (fun K hK => ?_)
       refine goes_ Tryd.func34 (by kernel_rfl) rfl #[.string (((a0.extract (x26_2 : Int).toNat a0.size) ++ (a0.extract 0 (x26_2 : Int).toNat)).extract 0 (x9_3 : Int).toNat)] (by rfl) rfl rfl zL ?_
       with_reducible refine (impl_backWord.calls (((a0.extract (x26_2 : Int).toNat a0.size) ++ (a0.extract 0 (x26_2 : Int).toNat)).extract 0 (x9_3 : Int).toNat) t168 _ A23.out).mono ?_
       rintro e w33 ⟨rfl, hb⟩
       refine ⟨_, rfl, ?_⟩
       have n0_ := am (Bb6 zB hb)
       clear HB
       have HB := n0_
       clear n0_
       (try clear hb)
       (try clear hb2)
       (try clear hk)
       (try clear hi)
       refine hK.out _ _ trivial (fun hHeld => ?_)
       clear hK K
       refine norm_ (a' := ?_) ?_ ?_
       rotate_left
       ·show Act.put _ (some 50) _ = _
        simp only [Act.put, sa, i64_w, i32_w]
        rfl
       refine pure_ (i := 10) (N := some 51) (v := ?_) (a' := ?_) impl_FindFactoring.m11 rfl rfl zA (fun _ _ _ h => h) (Or.inl ⟨by rfl, ?_⟩) ?_ ?_
       rotate_left
       ·intro w'
        go_simp
        with_reducible rfl
       rotate_left
       ·exact zP
       refine done_ (done_of HT_.out (by kernel_rfl)) ?_
       try go_wp2
       (try subst hji17)
       go_roundg k3
       case measure => have := HJ3.out; have := HK2.out; have := HK3.out; omega
       case rel => exact ⟨(wrap64 (x9_3 + 1)), zS, H', ⟨by have := HJ3.out; have := HK2.out; have := HK3.out; omega⟩, ⟨zB⟩⟩
      rw [if_pos c24] at H
      have c24b0 : ((((a0.extract (x26_2 : Int).toNat a0.size) ++ (a0.extract 0 (x26_2 : Int).toNat)).extract ((ji17) : Int).toNat ((wrap64 ((ji17) + x9_3)) : Int).toNat).toList == t168.toList) = true := beq_iff_eq.mpr c24
      have c24b1 : ((((a0.extract (x26_2 : Int).toNat a0.size) ++ (a0.extract 0 (x26_2 : Int).toNat)).extract ((ji17) : Int).toNat ((wrap64 ((ji17) + x9_3)) : Int).toNat).toList != t168.toList) = false := bne_eq_false_iff_eq.mpr c24
      clear c24
      have H' := am H
      clear H
      try go_wp2
      have n0_ := am (Bb3 HB.out)
      clear HB
      have HB := n0_
      clear n0_
      refine start_ (n := 11) (S := fun w' => True) (ds := []) impl_FindFactoring.m0 (by kernel_rfl) rfl rfl trivial (fun hHeld => ?_); refine with_tabW impl_FindFactoring.tab13 impl_FindFactoring.bits13 (fun HT_ HW_ => ?_)
      generalize wr.drew = w25 at HB hHeld ⊢
      refine pure_ (i := 0) (N := some 41) (v := ?_) (a' := ?_) impl_FindFactoring.m1 rfl rfl zA (fun _ _ _ h => h) (Or.inl ⟨by rfl, ?_⟩) ?_ ?_
      rotate_left
      ·intro w'
       go_simp
       with_reducible rfl
      rotate_left
      ·exact zP
      refine pure_ (i := 1) (N := some 42) (v := ?_) (a' := ?_) impl_FindFactoring.m2 rfl rfl zA (fun _ _ _ h => h) (Or.inl ⟨by rfl, ?_⟩) ?_ ?_
      rotate_left
      ·intro w'
       go_simp
       with_reducible rfl
      rotate_left
      ·exact zP
      refine pure_ (i := 2) (N := some 43) (v := ?_) (a' := ?_) impl_FindFactoring.m3 rfl rfl zA (fun _ _ _ h => h) (Or.inl ⟨by rfl, ?_⟩) ?_ ?_
      rotate_left
      ·intro w'
       go_simp
       with_reducible rfl
      rotate_left
      ·exact zP
      refine pure_ (i := 3) (N := some 44) (v := ?_) (a' := ?_) impl_FindFactoring.m4 rfl rfl zA (fun _ _ _ h => h) (Or.inl ⟨by rfl, ?_⟩) ?_ ?_
      rotate_left
      ·intro w'
       go_simp
       with_reducible rfl
      rotate_left
      ·exact zP
      refine pure_ (i := 4) (N := some 45) (v := ?_) (a' := ?_) impl_FindFactoring.m5 rfl rfl zA (fun _ _ _ h => h) (Or.inl ⟨by rfl, ?_⟩) ?_ ?_
      rotate_left
      ·intro w'
       go_simp
       with_reducible rfl
      rotate_left
      ·exact zP
      refine pure_ (i := 5) (N := some 46) (v := ?_) (a' := ?_) impl_FindFactoring.m6 rfl rfl zA (fun _ _ _ h => h) (Or.inl ⟨by rfl, ?_⟩) ?_ ?_
      rotate_left
      ·intro w'
       go_simp
       with_reducible rfl
      rotate_left
      ·exact zP
      refine pure_ (i := 6) (N := some 47) (v := ?_) (a' := ?_) impl_FindFactoring.m7 rfl rfl zA (fun _ _ _ h => h) (Or.inl ⟨by rfl, ?_⟩) ?_ ?_
      rotate_left
      ·intro w'
       go_simp
       with_reducible rfl
      rotate_left
      ·exact zP
      refine pure_ (i := 7) (N := some 48) (v := ?_) (a' := ?_) impl_FindFactoring.m8 rfl rfl zA (fun _ _ _ h => h) (Or.inl ⟨by rfl, ?_⟩) ?_ ?_
      rotate_left
      ·intro w'
       go_simp
       with_reducible rfl
      rotate_left
      ·exact zP
      refine pure_ (i := 8) (N := some 49) (v := ?_) (a' := ?_) impl_FindFactoring.m9 rfl rfl zA (fun _ _ _ h => h) (Or.inl ⟨by rfl, ?_⟩) ?_ ?_
      rotate_left
      ·intro w'
       go_simp
       with_reducible rfl
      rotate_left
      ·exact zP
      refine one_ (i := 9) (N := some 50) impl_FindFactoring.m10 rfl rfl (one_of HT_.out (by kernel_rfl)) (by decide) (fun K hK => ?_)
      refine goes_ Tryd.func34 (by kernel_rfl) rfl #[.string (((a0.extract (x26_2 : Int).toNat a0.size) ++ (a0.extract 0 (x26_2 : Int).toNat)).extract 0 (x9_3 : Int).toNat)] (by rfl) rfl rfl zL ?_
      with_reducible refine (impl_backWord.calls (((a0.extract (x26_2 : Int).toNat a0.size) ++ (a0.extract 0 (x26_2 : Int).toNat)).extract 0 (x9_3 : Int).toNat) t168 _ A23.out).mono ?_
      rintro e w26 ⟨rfl, hb⟩
      refine ⟨_, rfl, ?_⟩
      have n0_ := am (Bb6 zB hb)
      clear HB
      have HB := n0_
      clear n0_
      (try clear hb)
      (try clear hb2)
      (try clear hk)
      (try clear hi)
      refine hK.out _ _ trivial (fun hHeld => ?_)
      clear hK K
      refine norm_ (a' := ?_) ?_ ?_
      rotate_left
      ·show Act.put _ (some 50) _ = _
       simp only [Act.put, sa, i64_w, i32_w]
       rfl
      refine pure_ (i := 10) (N := some 51) (v := ?_) (a' := ?_) impl_FindFactoring.m11 rfl rfl zA (fun _ _ _ h => h) (Or.inl ⟨by rfl, ?_⟩) ?_ ?_
      rotate_left
      ·intro w'
       go_simp
       with_reducible rfl
      rotate_left
      ·exact zP
      refine done_ (done_of HT_.out (by kernel_rfl)) ?_
      try go_wp2
      go_loopg [10] k3 (fun kq v10 w' => ∃ (x10_4 : Int), v10 = .int .i64 x10_4 ∧ Aside0 (impl_FindFactoring.l2 kq a0 (ji17) x26_2 ((a0.extract (x26_2 : Int).toNat a0.size) ++ (a0.extract 0 (x26_2 : Int).toNat)) x9_3 x10_4 (a0.size : Int) x26_2 = some (r1, r2, r3, r4)) ∧ Aside0 (kq ≤ k3) ∧ Aside0 (Below w.heap.size w w'))
      case atStart => exact ⟨(0), zS, H', ⟨Nat.le_refl _⟩, ⟨zB⟩⟩
      case round =>
       clear H'
       try clear c1
       try clear c2
       try clear p2
       try clear c3
       try clear p6
       try clear c7
       try clear c8
       try clear c9
       try clear c9b0
       try clear c10
       try clear c10b0
       try clear c10b1
       try clear c11
       try clear c11b0
       try clear c11b1
       try clear c12
       try clear c12b0
       try clear c13
       try clear c13b0
       try clear c14
       try clear c14b0
       try clear c14b1
       try clear c14b2
       try clear c16
       try clear c16b0
       try clear c18
       try clear c18b0
       try clear c18b1
       try clear c19
       try clear c19b0
       try clear c19b1
       try clear c20
       try clear c20b0
       try clear c20b1
       try clear c21
       try clear c21b0
       try clear c21b1
       try clear c22
       try clear c22b0
       try clear c22b1
       try clear c24
       try clear c24b0
       try clear c24b1
       try clear p2
       try clear p6
       obtain ⟨x10_4, rfl, HA, HK4, HB⟩ := hrel
       cases gk with
       | zero => exact absurd HA.out (by simp [impl_FindFactoring.l2])
       | succ k4 =>
        have H := HA.out
        clear HA
        simp only [impl_FindFactoring.l2] at H
        by_cases c27 : (wrap64 (x9_3 + x10_4)) ≤ (ji17)
        rotate_left
        ·rw [if_neg c27] at H
         have c27b0 : decide ((wrap64 (x9_3 + x10_4)) ≤ (ji17)) = false := decide_eq_false c27
         clear c27
         have H' := am H
         clear H
         go_wp2
         (try subst hji17)
         go_roundg k4
         case measure => have := HJ3.out; have := HK2.out; have := HK3.out; have := HK4.out; omega
         case rel => exact ⟨(wrap64 (x9_3 + 1)), zS, H', ⟨by have := HJ3.out; have := HK2.out; have := HK3.out; have := HK4.out; omega⟩, ⟨zB⟩⟩
        rw [if_pos c27] at H
        have c27b0 : decide ((wrap64 (x9_3 + x10_4)) ≤ (ji17)) = true := decide_eq_true c27
        clear c27
        replace H := ob H
        obtain ⟨t169, A280, H⟩ := H
        (try dsimp only at H)
        have A28 := am A280
        clear A280
        by_cases c29 : t169 = true
        ·subst c29
         have H1 : (some (x26_2, x9_3, x10_4, 0)) = some (r1, r2, r3, r4) := by first | (rw [if_pos rfl] at H; exact H) | rfl
         clear H
         have H := H1
         clear H1
         simp only [Option.some.injEq, Prod.mk.injEq] at H
         obtain ⟨rfl, rfl, rfl, rfl⟩ := H
         go_wp2_with (first | ((with_reducible refine gate_callee (f := 41) rfl ?_); refine goesL_ (some 62) rfl rfl Tryd.func41 (by kernel_rfl) rfl #[.string ((a0.extract (x26_2 : Int).toNat a0.size) ++ (a0.extract 0 (x26_2 : Int).toNat)), .int .i64 x9_3, .int .i64 x10_4] rfl zL ?_; (with_reducible refine (impl_isFactoring.calls k4 ((a0.extract (x26_2 : Int).toNat a0.size) ++ (a0.extract 0 (x26_2 : Int).toNat)) x9_3 x10_4 true _ A28.out).mono ?_); rintro e w30 ⟨rfl, hb⟩; refine ⟨_, rfl, ?_⟩; have n0_ := am (Bb6 zB hb); clear HB; have HB := n0_; clear n0_; (try clear hb); (try clear hb2); (try clear hk); (try clear hi)))
         refine bodyPost_ret (results_list (rs := [.tmp 2, .tmp 3, .tmp 4, .tmp 5]) rfl (by simp) (.tmp (.tmp (.tmp (.tmp .nil))))) rfl ?_
         exact ⟨by first | rfl | (simp [errW_none, errW_some] <;> rfl) | (simp only [← hji17]; first | rfl | (simp [errW_none, errW_some] <;> rfl)) | (simp [*, errW_none, errW_some] <;> rfl), zB⟩
        replace c29 := ef c29
        subst c29
        have H1 : (impl_FindFactoring.l2 k4 a0 (ji17) x26_2 ((a0.extract (x26_2 : Int).toNat a0.size) ++ (a0.extract 0 (x26_2 : Int).toNat)) x9_3 (wrap64 (x10_4 + 1)) (a0.size : Int) x26_2) = some (r1, r2, r3, r4) := by first | (rw [if_neg (show ¬ (false = true) by decide)] at H; exact H) | rfl
        clear H
        have H := H1
        clear H1
        have H' := am H
        clear H
        go_wp2_with (first | ((with_reducible refine gate_callee (f := 41) rfl ?_); refine goesL_ (some 62) rfl rfl Tryd.func41 (by kernel_rfl) rfl #[.string ((a0.extract (x26_2 : Int).toNat a0.size) ++ (a0.extract 0 (x26_2 : Int).toNat)), .int .i64 x9_3, .int .i64 x10_4] rfl zL ?_; (with_reducible refine (impl_isFactoring.calls k4 ((a0.extract (x26_2 : Int).toNat a0.size) ++ (a0.extract 0 (x26_2 : Int).toNat)) x9_3 x10_4 false _ A28.out).mono ?_); rintro e w31 ⟨rfl, hb⟩; refine ⟨_, rfl, ?_⟩; have n0_ := am (Bb6 zB hb); clear HB; have HB := n0_; clear n0_; (try clear hb); (try clear hb2); (try clear hk); (try clear hi)))
        (try subst hji17)
        go_roundg k4
        case measure => have := HJ3.out; have := HK2.out; have := HK3.out; have := HK4.out; omega
        case rel => exact ⟨(wrap64 (x10_4 + 1)), zS, H', ⟨by have := HJ3.out; have := HK2.out; have := HK3.out; have := HK4.out; omega⟩, ⟨zB⟩⟩

end Go.Proofs.YtcgnnfaemjjljaaDoor.Q
