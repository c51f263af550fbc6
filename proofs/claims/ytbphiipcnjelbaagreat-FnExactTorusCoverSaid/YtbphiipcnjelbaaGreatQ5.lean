/- Written by a program of this session (wip/tools/pp.py) out of the translation, with the kit's printer. -/
import Derived.Test.YtbphiipcnjelbaaGreatQ0
import Derived.Test.YtbphiipcnjelbaaGreatQ3
namespace Go.Proofs.YtbphiipcnjelbaaGreat.Q
open Go.RowKit Go.Proofs.YtbphiipcnjelbaaGreatW.PrintWords Go.Proofs.YtbphiipcnjelbaaGreatW.PrintLast Go.Proofs.YtbphiipcnjelbaaGreatW.PrintMore
attribute [local go_sem] max2_int min2_int max_two min_two max_three min_three max_four min_four
set_option linter.unusedVariables false
set_option linter.unusedSimpArgs false

/-! ### spec_l01Has: function 36 -/
def spec_l01Has.l0 : Nat → List Int → Int → Int → Option (Bool)
 | 0, _, _, _ => none
 | k + 1, x0, x1, x5 => if x5 < (x0.length : Int) then (if 0 ≤ x5 then (if (rd x0 x5) = x1 then (some true) else (spec_l01Has.l0 k x0 x1 (wrap64 (x5 + 1)))) else (none)) else (some false)
def spec_l01Has.f (k : Nat) (l0 : List Int) (a1 : Int) : Option (Bool) := spec_l01Has.l0 k l0 a1 0
theorem spec_l01Has.mono_l : ∀ k, (∀ y0 y1 y2, LeO (spec_l01Has.l0 k y0 y1 y2) (spec_l01Has.l0 (k + 1) y0 y1 y2))
 | 0 => fun _ _ _ r h => by simp [spec_l01Has.l0] at h
 | k + 1 => by
  have ih0 := spec_l01Has.mono_l k
  ·intro y0 y1 y2
   unfold spec_l01Has.l0
   with_reducible repeat' first | exact ih0 _ _ _ | exact LeO.refl _ | exact LeO.none _ | refine LeO.ite ?_ ?_ | refine LeO.bind ?_ (fun _ => ?_)
theorem spec_l01Has.mono : ∀ a0 a1 k, LeO (spec_l01Has.f k a0 a1) (spec_l01Has.f (k + 1) a0 a1) := by
 intro a0 a1 k
 have ih0 := spec_l01Has.mono_l k
 unfold spec_l01Has.f
 with_reducible repeat' first | exact ih0 _ _ _ | exact LeO.refl _ | exact LeO.none _ | refine LeO.ite ?_ ?_ | refine LeO.bind ?_ (fun _ => ?_)
set_option maxHeartbeats 8000000 in
set_option maxRecDepth 100000 in
theorem spec_l01Has.calls (k : Nat) (A0 : Option Addr) (c0 : Nat) (l0 : List Int) (a1 : Int) (r : Bool) (w : World) (hr0 : Kd.C (Kd.int .i64) w A0 l0.length l0) (hc0 : l0.length ≤ c0) (h : spec_l01Has.f k l0 a1 = some r) :
  Calls Tryz.prog 36 #[.slice A0 l0.length c0, .int .i64 a1] w fun e w' => e = .returned (.bool r) ∧ Drawn0 w w' := by
 have HR0 := am hr0
 have HC0 := am hc0
 clear hr0 hc0
 have H : (spec_l01Has.l0 k l0 a1 0) = some r := h
 clear h
 have H' := am H
 clear H
 go_enter Tryz.func36, Tryz.ntmps36
 go_wp2
 go_loopg [5] k (fun kq v5 w' => ∃ (x5_1 : Int), v5 = .int .i64 x5_1 ∧ Aside0 (spec_l01Has.l0 kq l0 a1 x5_1 = some r) ∧ Aside0 (kq ≤ k) ∧ Drawn0 w w')
 case atStart => exact ⟨(0), zS, H', ⟨Nat.le_refl _⟩, by repeat (first | exact Drawn0.refl _ | apply Drawn0.step)⟩
 case round =>
  clear H'
  try clear p2
  obtain ⟨x5_1, rfl, HA, HK1, ⟨m1, rfl⟩⟩ := hrel
  cases gk with
  | zero => exact absurd HA.out (by simp [spec_l01Has.l0])
  | succ k1 =>
   have H := HA.out
   clear HA
   simp only [spec_l01Has.l0] at H
   by_cases c3 : x5_1 < (l0.length : Int)
   rotate_left
   ·rw [if_neg c3] at H
    have c3b0 : decide (x5_1 < (l0.length : Int)) = false := decide_eq_false c3
    clear c3
    obtain rfl := oi H
    go_wp2
    go_ret
    exact ⟨by first | rfl | (simp; done) | (simp [*]; done), by repeat (first | exact Drawn0.refl _ | apply Drawn0.step)⟩
   rw [if_pos c3] at H
   have c3b0 : decide (x5_1 < (l0.length : Int)) = true := decide_eq_true c3
   clear c3
   by_cases c4 : 0 ≤ x5_1
   rotate_left
   ·rw [if_neg c4] at H
    exact absurd H (by simp)
   rw [if_pos c4] at H
   have c4b0 : decide (0 ≤ x5_1) = true := decide_eq_true c4
   clear c4
   by_cases c5 : (rd l0 x5_1) = a1
   ·rw [if_pos c5] at H
    have c5b0 : ((rd l0 x5_1) == a1) = true := beq_iff_eq.mpr c5
    have c5b1 : ((rd l0 x5_1) != a1) = false := bne_eq_false_iff_eq.mpr c5
    clear c5
    obtain rfl := oi H
    have p199 : 0 ≤ (x5_1 : Int) := zD
    have q199 : x5_1 < (l0.length : Int) := zD
    obtain ⟨ad199, e199, hx199_0⟩ := Kd.at_int HR0.out x5_1 p199 q199
    cases e199
    replace p199 := eq_true p199
    replace q199 := eq_true q199
    go_wp2
    go_ret
    exact ⟨by first | rfl | (simp; done) | (simp [*]; done), by repeat (first | exact Drawn0.refl _ | apply Drawn0.step)⟩
   rw [if_neg c5] at H
   have c5b0 : ((rd l0 x5_1) == a1) = false := beq_eq_false_iff_ne.mpr c5
   have c5b1 : ((rd l0 x5_1) != a1) = true := bne_iff_ne.mpr c5
   have H' := am H
   clear H
   have p199 : 0 ≤ (x5_1 : Int) := zD
   have q199 : x5_1 < (l0.length : Int) := zD
   obtain ⟨ad199, e199, hx199_0⟩ := Kd.at_int HR0.out x5_1 p199 q199
   cases e199
   replace p199 := eq_true p199
   replace q199 := eq_true q199
   go_wp2
   go_roundg k1
   case measure => have := HK1.out; omega
   case rel => exact ⟨(wrap64 (x5_1 + 1)), zS, H', ⟨by have := HK1.out; omega⟩, by repeat (first | exact Drawn0.refl _ | apply Drawn0.step)⟩

/-! ### spec_CompareShapes: function 115 -/
abbrev spec_CompareShapes.m0 : Array Bool := #[z',z',z',z',z',z',z',z',z']
abbrev spec_CompareShapes.m1 : Array Bool := #[o',z',z',z',z',z',z',z',z']
abbrev spec_CompareShapes.m2 : Array Bool := #[o',o',z',z',z',z',z',z',z']
abbrev spec_CompareShapes.m3 : Array Bool := #[o',o',o',z',z',z',z',z',z']
abbrev spec_CompareShapes.m4 : Array Bool := #[o',o',o',z',o',z',z',z',z']
abbrev spec_CompareShapes.m5 : Array Bool := #[o',o',o',z',o',o',z',z',z']
abbrev spec_CompareShapes.m6 : Array Bool := #[o',o',o',z',o',o',o',z',z']
abbrev spec_CompareShapes.m7 : Array Bool := #[o',o',o',o',o',o',o',z',z']
abbrev spec_CompareShapes.m8 : Array Bool := #[o',o',o',o',o',o',o',o',z']
abbrev spec_CompareShapes.m9 : Array Bool := #[o',o',o',o',o',o',o',o',o']
def spec_CompareShapes.l0 : Nat → List (S66) → List (S66) → Int → Option (Int)
 | 0, _, _, _ => none
 | k + 1, x0, x1, x5 => if x5 < (x0.length : Int) then (if 0 ≤ x5 then (if x5 < (x1.length : Int) then ((spec_l02Less.f ((rd_T66 x0 x5).f0) ((rd_T66 x0 x5).f1) ((rd_T66 x1 x5).f0) ((rd_T66 x1 x5).f1)).bind fun t202 => (if t202 = true then (some (-1)) else ((spec_l02Less.f ((rd_T66 x1 x5).f0) ((rd_T66 x1 x5).f1) ((rd_T66 x0 x5).f0) ((rd_T66 x0 x5).f1)).bind fun t205 => (if t205 = true then (some 1) else (spec_CompareShapes.l0 k x0 x1 (wrap64 (x5 + 1))))))) else (none)) else (none)) else (some 0)
def spec_CompareShapes.f (k : Nat) (l0 : List (S66)) (l1 : List (S66)) : Option (Int) := if (l0.length : Int) = (l1.length : Int) then (spec_CompareShapes.l0 k l0 l1 0) else (if (l0.length : Int) < (l1.length : Int) then (some (-1)) else (some 1))
theorem spec_CompareShapes.mono_l : ∀ k, (∀ y0 y1 y2, LeO (spec_CompareShapes.l0 k y0 y1 y2) (spec_CompareShapes.l0 (k + 1) y0 y1 y2))
 | 0 => fun _ _ _ r h => by simp [spec_CompareShapes.l0] at h
 | k + 1 => by
  have ih0 := spec_CompareShapes.mono_l k
  ·intro y0 y1 y2
   unfold spec_CompareShapes.l0
   with_reducible repeat' first | exact ih0 _ _ _ | exact LeO.refl _ | exact LeO.none _ | refine LeO.ite ?_ ?_ | refine LeO.bind ?_ (fun _ => ?_)
theorem spec_CompareShapes.mono : ∀ a0 a1 k, LeO (spec_CompareShapes.f k a0 a1) (spec_CompareShapes.f (k + 1) a0 a1) := by
 intro a0 a1 k
 have ih0 := spec_CompareShapes.mono_l k
 unfold spec_CompareShapes.f
 with_reducible repeat' first | exact ih0 _ _ _ | exact LeO.refl _ | exact LeO.none _ | refine LeO.ite ?_ ?_ | refine LeO.bind ?_ (fun _ => ?_)
def spec_CompareShapes.T8 : Bool × List (List Nat × List Nat) := (true, [([], []), ([], []), ([0, 1], [0, 1]), ([2], [2]), ([], []), ([], []), ([4, 5], [4, 5]), ([6], [6]), ([3, 7], [3, 7])])
def spec_CompareShapes.B8 : List Nat := [0, 0, 3, 7, 0, 0, 48, 112, 255]
theorem spec_CompareShapes.tab8 : rtab .any (opsOf Tryz.f115 8) = spec_CompareShapes.T8 := by kernel_rfl
theorem spec_CompareShapes.bits8 : waitsOk spec_CompareShapes.T8.2 spec_CompareShapes.B8 = true := by kernel_rfl
def spec_CompareShapes.T10 : Bool × List (List Nat × List Nat) := (true, [([], []), ([], []), ([0, 1], [0, 1]), ([2], [2]), ([], []), ([], []), ([4, 5], [4, 5]), ([6], [6]), ([3, 7], [3, 7])])
def spec_CompareShapes.B10 : List Nat := [0, 0, 3, 7, 0, 0, 48, 112, 255]
theorem spec_CompareShapes.tab10 : rtab .any (opsOf Tryz.f115 10) = spec_CompareShapes.T10 := by kernel_rfl
theorem spec_CompareShapes.bits10 : waitsOk spec_CompareShapes.T10.2 spec_CompareShapes.B10 = true := by kernel_rfl
set_option maxHeartbeats 8000000 in
set_option maxRecDepth 100000 in
theorem spec_CompareShapes.calls (k : Nat) (A0 : Option Addr) (c0 : Nat) (l0 : List (S66)) (A1 : Option Addr) (c1 : Nat) (l1 : List (S66)) (r : Int) (w : World) (hr0 : Kd.C k66 w A0 l0.length l0) (hc0 : l0.length ≤ c0) (hr1 : Kd.C k66 w A1 l1.length l1) (hc1 : l1.length ≤ c1) (h : spec_CompareShapes.f k l0 l1 = some r) :
  Calls Tryz.prog 115 #[.slice A0 l0.length c0, .slice A1 l1.length c1] w fun e w' => e = .returned (.int .i64 r) ∧ Below w.heap.size w w' := by
 have hu66 := Tryz.underlying66
 have HR0 := am hr0
 have HC0 := am hc0
 clear hr0 hc0
 have HR1 := am hr1
 have HC1 := am hc1
 clear hr1 hc1
 have HB := am (Below.refl w.heap.size w)
 have H : (if (l0.length : Int) = (l1.length : Int) then (spec_CompareShapes.l0 k l0 l1 0) else (if (l0.length : Int) < (l1.length : Int) then (some (-1)) else (some 1))) = some r := h
 clear h
 by_cases c3 : (l0.length : Int) = (l1.length : Int)
 rotate_left
 ·rw [if_neg c3] at H
  have c3b0 : ((l0.length : Int) == (l1.length : Int)) = false := beq_eq_false_iff_ne.mpr c3
  have c3b1 : ((l0.length : Int) != (l1.length : Int)) = true := bne_iff_ne.mpr c3
  have c3b2 : (l0.length == l1.length) = false := by first | simpa using c3 | (simp at c3 ⊢; omega)
  by_cases c21 : (l0.length : Int) < (l1.length : Int)
  ·rw [if_pos c21] at H
   have c21b0 : decide ((l0.length : Int) < (l1.length : Int)) = true := decide_eq_true c21
   have c21b1 : decide (l0.length < l1.length) = true := decide_eq_true (Int.ofNat_lt.mp c21)
   clear c21
   obtain rfl := oi H
   go_enter Tryz.func115, Tryz.ntmps115
   go_wp2
   go_ret
   exact ⟨zE, zB⟩
  rw [if_neg c21] at H
  have c21b0 : decide ((l0.length : Int) < (l1.length : Int)) = false := decide_eq_false c21
  have c21b1 : decide (l0.length < l1.length) = false := decide_eq_false (fun h => c21 (Int.ofNat_lt.mpr h))
  clear c21
  obtain rfl := oi H
  go_enter Tryz.func115, Tryz.ntmps115
  go_wp2
  go_ret
  exact ⟨zE, zB⟩
 rw [if_pos c3] at H
 have c3b0 : ((l0.length : Int) == (l1.length : Int)) = true := beq_iff_eq.mpr c3
 have c3b1 : ((l0.length : Int) != (l1.length : Int)) = false := bne_eq_false_iff_eq.mpr c3
 have c3b2 : (l0.length == l1.length) = true := by first | simpa using c3 | (simp at c3 ⊢; omega)
 clear c3
 have H' := am H
 clear H
 go_enter Tryz.func115, Tryz.ntmps115
 go_wp2
 go_loopg [5] k (fun kq v5 w' => ∃ (x5_1 : Int), v5 = .int .i64 x5_1 ∧ Aside0 (spec_CompareShapes.l0 kq l0 l1 x5_1 = some r) ∧ Aside0 (kq ≤ k) ∧ Aside0 (Below w.heap.size w w'))
 case atStart => exact ⟨(0), zS, H', ⟨Nat.le_refl _⟩, ⟨zB⟩⟩
 case round =>
  clear H'
  try clear c1
  try clear p2
  try clear c3
  try clear c3b0
  try clear c3b1
  try clear c3b2
  obtain ⟨x5_1, rfl, HA, HK1, HB⟩ := hrel
  cases gk with
  | zero => exact absurd HA.out (by simp [spec_CompareShapes.l0])
  | succ k1 =>
   have H := HA.out
   clear HA
   simp only [spec_CompareShapes.l0] at H
   by_cases c4 : x5_1 < (l0.length : Int)
   rotate_left
   ·rw [if_neg c4] at H
    have c4b0 : decide (x5_1 < (l0.length : Int)) = false := decide_eq_false c4
    clear c4
    obtain rfl := oi H
    go_wp2
    go_ret
    exact ⟨zE, zB⟩
   rw [if_pos c4] at H
   have c4b0 : decide (x5_1 < (l0.length : Int)) = true := decide_eq_true c4
   clear c4
   by_cases c5 : 0 ≤ x5_1
   rotate_left
   ·rw [if_neg c5] at H
    exact absurd H (by simp)
   rw [if_pos c5] at H
   have c5b0 : decide (0 ≤ x5_1) = true := decide_eq_true c5
   clear c5
   by_cases c6 : x5_1 < (l1.length : Int)
   rotate_left
   ·rw [if_neg c6] at H
    exact absurd H (by simp)
   rw [if_pos c6] at H
   have c6b0 : decide (x5_1 < (l1.length : Int)) = true := decide_eq_true c6
   clear c6
   replace H := ob H
   obtain ⟨t202, A70, H⟩ := H
   (try dsimp only at H)
   have A7 := am A70
   clear A70
   by_cases c8 : t202 = true
   ·subst c8
    have H1 : (some (-1)) = some r := by first | (rw [if_pos rfl] at H; exact H) | rfl
    clear H
    have H := H1
    clear H1
    obtain rfl := oi H
    try go_wp2
    have n0_ := am (Bb3 HB.out)
    clear HB
    have HB := n0_
    clear n0_
    have p200 : 0 ≤ (x5_1 : Int) := zD
    have q200 : x5_1 < (l0.length : Int) := zD
    obtain ⟨ad200, e200, hx200_0, hx200_1⟩ := at_T66 HR0.out x5_1 p200 q200
    have hw200_1 := hx200_1
    have hw200_0 := hx200_0
    cases e200
    replace hx200_0 := pc HB.out hx200_0
    replace hx200_1 := pc HB.out hx200_1
    replace p200 := eq_true p200
    replace q200 := eq_true q200
    have p201 : 0 ≤ (x5_1 : Int) := zD
    have q201 : x5_1 < (l1.length : Int) := zD
    obtain ⟨ad201, e201, hx201_0, hx201_1⟩ := at_T66 HR1.out x5_1 p201 q201
    have hw201_1 := hx201_1
    have hw201_0 := hx201_0
    cases e201
    replace hx201_0 := pc HB.out hx201_0
    replace hx201_1 := pc HB.out hx201_1
    replace p201 := eq_true p201
    replace q201 := eq_true q201
    refine start_ (n := 9) (S := fun w' => w'.cell? (ad200.add ((x5_1).toNat * 2)) = some (.int .i64 ((rd_T66 l0 x5_1).f0)) ∧ w'.cell? ⟨(ad200.add ((x5_1).toNat * 2)).block, (ad200.add ((x5_1).toNat * 2)).off + 1, none⟩ = some (.int .i64 ((rd_T66 l0 x5_1).f1)) ∧ w'.cell? (ad201.add ((x5_1).toNat * 2)) = some (.int .i64 ((rd_T66 l1 x5_1).f0)) ∧ w'.cell? ⟨(ad201.add ((x5_1).toNat * 2)).block, (ad201.add ((x5_1).toNat * 2)).off + 1, none⟩ = some (.int .i64 ((rd_T66 l1 x5_1).f1))) (ds := []) spec_CompareShapes.m0 (by kernel_rfl) rfl rfl ⟨(pc HB.out hw200_0), (pc HB.out hw200_1), (pc HB.out hw201_0), (pc HB.out hw201_1)⟩ (fun hHeld => ?_); refine with_tabW spec_CompareShapes.tab8 spec_CompareShapes.bits8 (fun HT_ HW_ => ?_)
    generalize wr.drew = w9 at HB hx200_0 hx200_1 hx201_0 hx201_1 hHeld ⊢
    refine pure_ (i := 0) (N := some 22) (v := ?_) (a' := ?_) spec_CompareShapes.m1 rfl rfl zA (fun _ _ _ h => h) (Or.inl ⟨by rfl, ?_⟩) ?_ ?_
    rotate_left
    ·intro w'
     go_simp
     rfl
    rotate_left
    ·exact zP
    refine pure_ (i := 1) (N := some 23) (v := ?_) (a' := ?_) spec_CompareShapes.m2 rfl rfl zA (fun _ _ _ h => h) (Or.inl ⟨by rfl, ?_⟩) ?_ ?_
    rotate_left
    ·intro w'
     go_simp
     rfl
    rotate_left
    ·exact zP
    refine pure_ (i := 2) (N := some 24) (v := ?_) (a' := ?_) spec_CompareShapes.m3 rfl rfl zA (fun _ _ _ h => h) (Or.inl ⟨by rfl, ?_⟩) ?_ ?_
    rotate_left
    ·intro w'
     go_simp
     rfl
    rotate_left
    ·exact zP
    refine pure_ (i := 4) (N := some 26) (v := ?_) (a' := ?_) spec_CompareShapes.m4 rfl rfl zA (fun _ _ _ h => h) (Or.inl ⟨by rfl, ?_⟩) ?_ ?_
    rotate_left
    ·intro w'
     go_simp
     rfl
    rotate_left
    ·exact zP
    refine pure_ (i := 5) (N := some 27) (v := ?_) (a' := ?_) spec_CompareShapes.m5 rfl rfl zA (fun _ _ _ h => h) (Or.inl ⟨by rfl, ?_⟩) ?_ ?_
    rotate_left
    ·intro w'
     go_simp
     rfl
    rotate_left
    ·exact zP
    refine pure_ (i := 6) (N := some 28) (v := ?_) (a' := ?_) spec_CompareShapes.m6 rfl rfl zA (fun _ _ _ h => h) (Or.inl ⟨by rfl, ?_⟩) ?_ ?_
    rotate_left
    ·intro w'
     go_simp
     rfl
    rotate_left
    ·exact zP
    refine take_ (i := 3) (N := some 25) (v := ?_) (a' := ?_) spec_CompareShapes.m7 rfl rfl (take_ofW HT_.out HW_.out (by kernel_rfl)) (fun _ _ _ h => h) (Or.inl ⟨by rfl, ?_⟩) hHeld ?_ ?_
    rotate_left
    ·rintro w' ⟨s0, s1, s2, s3⟩
     go_simp
     rfl
    rotate_left
    ·exact zP
    refine take_ (i := 7) (N := some 29) (v := ?_) (a' := ?_) spec_CompareShapes.m8 rfl rfl (take_ofW HT_.out HW_.out (by kernel_rfl)) (fun _ _ _ h => h) (Or.inl ⟨by rfl, ?_⟩) hHeld ?_ ?_
    rotate_left
    ·rintro w' ⟨s0, s1, s2, s3⟩
     go_simp
     rfl
    rotate_left
    ·exact zP
    refine one_ (i := 8) (N := some 30) spec_CompareShapes.m9 rfl rfl (one_of HT_.out (by kernel_rfl)) (by decide) (fun K hK => ?_)
    refine goes_ Tryz.func112 (by kernel_rfl) rfl #[.agg #[.int .i64 ((rd_T66 l0 x5_1).f0), .int .i64 ((rd_T66 l0 x5_1).f1)], .agg #[.int .i64 ((rd_T66 l1 x5_1).f0), .int .i64 ((rd_T66 l1 x5_1).f1)]] (by rfl) rfl rfl zL ?_
    with_reducible refine (spec_l02Less.calls ((rd_T66 l0 x5_1).f0) ((rd_T66 l0 x5_1).f1) ((rd_T66 l1 x5_1).f0) ((rd_T66 l1 x5_1).f1) true _ A7.out).mono ?_
    rintro e w10 ⟨rfl, hb⟩
    refine ⟨_, rfl, ?_⟩
    have n0_ := am (Bb6 zB hb)
    clear HB
    have HB := n0_
    clear n0_
    (try clear hb)
    (try clear hb2)
    (try clear hk)
    (try clear hi)
    refine hK.out _ _ ⟨(pc HB.out hw200_0), (pc HB.out hw200_1), (pc HB.out hw201_0), (pc HB.out hw201_1)⟩ (fun hHeld => ?_)
    clear hK K
    refine norm_ (a' := ?_) ?_ ?_
    rotate_left
    ·show Act.put _ (some 30) _ = _
     simp only [Act.put, sa, i64_w, i32_w]
     rfl
    refine done_ (done_of HT_.out (by kernel_rfl)) ?_
    try go_wp2
    go_ret
    exact ⟨zE, zB⟩
   replace c8 := ef c8
   subst c8
   have H1 : ((spec_l02Less.f ((rd_T66 l1 x5_1).f0) ((rd_T66 l1 x5_1).f1) ((rd_T66 l0 x5_1).f0) ((rd_T66 l0 x5_1).f1)).bind fun t205 => (if t205 = true then (some 1) else (spec_CompareShapes.l0 k1 l0 l1 (wrap64 (x5_1 + 1))))) = some r := by first | (rw [if_neg (show ¬ (false = true) by decide)] at H; exact H) | rfl
   clear H
   have H := H1
   clear H1
   replace H := ob H
   obtain ⟨t205, A110, H⟩ := H
   (try dsimp only at H)
   have A11 := am A110
   clear A110
   by_cases c12 : t205 = true
   ·subst c12
    have H1 : (some 1) = some r := by first | (rw [if_pos rfl] at H; exact H) | rfl
    clear H
    have H := H1
    clear H1
    obtain rfl := oi H
    try go_wp2
    have n0_ := am (Bb3 HB.out)
    clear HB
    have HB := n0_
    clear n0_
    have p200 : 0 ≤ (x5_1 : Int) := zD
    have q200 : x5_1 < (l0.length : Int) := zD
    obtain ⟨ad200, e200, hx200_0, hx200_1⟩ := at_T66 HR0.out x5_1 p200 q200
    have hw200_1 := hx200_1
    have hw200_0 := hx200_0
    cases e200
    replace hx200_0 := pc HB.out hx200_0
    replace hx200_1 := pc HB.out hx200_1
    replace p200 := eq_true p200
    replace q200 := eq_true q200
    have p201 : 0 ≤ (x5_1 : Int) := zD
    have q201 : x5_1 < (l1.length : Int) := zD
    obtain ⟨ad201, e201, hx201_0, hx201_1⟩ := at_T66 HR1.out x5_1 p201 q201
    have hw201_1 := hx201_1
    have hw201_0 := hx201_0
    cases e201
    replace hx201_0 := pc HB.out hx201_0
    replace hx201_1 := pc HB.out hx201_1
    replace p201 := eq_true p201
    replace q201 := eq_true q201
    refine start_ (n := 9) (S := fun w' => w'.cell? (ad200.add ((x5_1).toNat * 2)) = some (.int .i64 ((rd_T66 l0 x5_1).f0)) ∧ w'.cell? ⟨(ad200.add ((x5_1).toNat * 2)).block, (ad200.add ((x5_1).toNat * 2)).off + 1, none⟩ = some (.int .i64 ((rd_T66 l0 x5_1).f1)) ∧ w'.cell? (ad201.add ((x5_1).toNat * 2)) = some (.int .i64 ((rd_T66 l1 x5_1).f0)) ∧ w'.cell? ⟨(ad201.add ((x5_1).toNat * 2)).block, (ad201.add ((x5_1).toNat * 2)).off + 1, none⟩ = some (.int .i64 ((rd_T66 l1 x5_1).f1))) (ds := []) spec_CompareShapes.m0 (by kernel_rfl) rfl rfl ⟨(pc HB.out hw200_0), (pc HB.out hw200_1), (pc HB.out hw201_0), (pc HB.out hw201_1)⟩ (fun hHeld => ?_); refine with_tabW spec_CompareShapes.tab8 spec_CompareShapes.bits8 (fun HT_ HW_ => ?_)
    generalize wr.drew = w13 at HB hx200_0 hx200_1 hx201_0 hx201_1 hHeld ⊢
    refine pure_ (i := 0) (N := some 22) (v := ?_) (a' := ?_) spec_CompareShapes.m1 rfl rfl zA (fun _ _ _ h => h) (Or.inl ⟨by rfl, ?_⟩) ?_ ?_
    rotate_left
    ·intro w'
     go_simp
     rfl
    rotate_left
    ·exact zP
    refine pure_ (i := 1) (N := some 23) (v := ?_) (a' := ?_) spec_CompareShapes.m2 rfl rfl zA (fun _ _ _ h => h) (Or.inl ⟨by rfl, ?_⟩) ?_ ?_
    rotate_left
    ·intro w'
     go_simp
     rfl
    rotate_left
    ·exact zP
    refine pure_ (i := 2) (N := some 24) (v := ?_) (a' := ?_) spec_CompareShapes.m3 rfl rfl zA (fun _ _ _ h => h) (Or.inl ⟨by rfl, ?_⟩) ?_ ?_
    rotate_left
    ·intro w'
     go_simp
     rfl
    rotate_left
    ·exact zP
    refine pure_ (i := 4) (N := some 26) (v := ?_) (a' := ?_) spec_CompareShapes.m4 rfl rfl zA (fun _ _ _ h => h) (Or.inl ⟨by rfl, ?_⟩) ?_ ?_
    rotate_left
    ·intro w'
     go_simp
     rfl
    rotate_left
    ·exact zP
    refine pure_ (i := 5) (N := some 27) (v := ?_) (a' := ?_) spec_CompareShapes.m5 rfl rfl zA (fun _ _ _ h => h) (Or.inl ⟨by rfl, ?_⟩) ?_ ?_
    rotate_left
    ·intro w'
     go_simp
     rfl
    rotate_left
    ·exact zP
    refine pure_ (i := 6) (N := some 28) (v := ?_) (a' := ?_) spec_CompareShapes.m6 rfl rfl zA (fun _ _ _ h => h) (Or.inl ⟨by rfl, ?_⟩) ?_ ?_
    rotate_left
    ·intro w'
     go_simp
     rfl
    rotate_left
    ·exact zP
    refine take_ (i := 3) (N := some 25) (v := ?_) (a' := ?_) spec_CompareShapes.m7 rfl rfl (take_ofW HT_.out HW_.out (by kernel_rfl)) (fun _ _ _ h => h) (Or.inl ⟨by rfl, ?_⟩) hHeld ?_ ?_
    rotate_left
    ·rintro w' ⟨s0, s1, s2, s3⟩
     go_simp
     rfl
    rotate_left
    ·exact zP
    refine take_ (i := 7) (N := some 29) (v := ?_) (a' := ?_) spec_CompareShapes.m8 rfl rfl (take_ofW HT_.out HW_.out (by kernel_rfl)) (fun _ _ _ h => h) (Or.inl ⟨by rfl, ?_⟩) hHeld ?_ ?_
    rotate_left
    ·rintro w' ⟨s0, s1, s2, s3⟩
     go_simp
     rfl
    rotate_left
    ·exact zP
    refine one_ (i := 8) (N := some 30) spec_CompareShapes.m9 rfl rfl (one_of HT_.out (by kernel_rfl)) (by decide) (fun K hK => ?_)
    refine goes_ Tryz.func112 (by kernel_rfl) rfl #[.agg #[.int .i64 ((rd_T66 l0 x5_1).f0), .int .i64 ((rd_T66 l0 x5_1).f1)], .agg #[.int .i64 ((rd_T66 l1 x5_1).f0), .int .i64 ((rd_T66 l1 x5_1).f1)]] (by rfl) rfl rfl zL ?_
    with_reducible refine (spec_l02Less.calls ((rd_T66 l0 x5_1).f0) ((rd_T66 l0 x5_1).f1) ((rd_T66 l1 x5_1).f0) ((rd_T66 l1 x5_1).f1) false _ A7.out).mono ?_
    rintro e w14 ⟨rfl, hb⟩
    refine ⟨_, rfl, ?_⟩
    have n0_ := am (Bb6 zB hb)
    clear HB
    have HB := n0_
    clear n0_
    (try clear hb)
    (try clear hb2)
    (try clear hk)
    (try clear hi)
    refine hK.out _ _ ⟨(pc HB.out hw200_0), (pc HB.out hw200_1), (pc HB.out hw201_0), (pc HB.out hw201_1)⟩ (fun hHeld => ?_)
    clear hK K
    refine norm_ (a' := ?_) ?_ ?_
    rotate_left
    ·show Act.put _ (some 30) _ = _
     simp only [Act.put, sa, i64_w, i32_w]
     rfl
    refine done_ (done_of HT_.out (by kernel_rfl)) ?_
    try go_wp2
    have n0_ := am (Bb3 HB.out)
    clear HB
    have HB := n0_
    clear n0_
    have p203 : 0 ≤ (x5_1 : Int) := zD
    have q203 : x5_1 < (l1.length : Int) := zD
    obtain ⟨ad203, e203, hx203_0, hx203_1⟩ := at_T66 HR1.out x5_1 p203 q203
    have hw203_1 := hx203_1
    have hw203_0 := hx203_0
    obtain rfl : ad201 = ad203 := (by injection e203)
    replace hx203_0 := pc HB.out hx203_0
    replace hx203_1 := pc HB.out hx203_1
    replace p203 := eq_true p203
    replace q203 := eq_true q203
    have p204 : 0 ≤ (x5_1 : Int) := zD
    have q204 : x5_1 < (l0.length : Int) := zD
    obtain ⟨ad204, e204, hx204_0, hx204_1⟩ := at_T66 HR0.out x5_1 p204 q204
    have hw204_1 := hx204_1
    have hw204_0 := hx204_0
    obtain rfl : ad200 = ad204 := (by injection e204)
    replace hx204_0 := pc HB.out hx204_0
    replace hx204_1 := pc HB.out hx204_1
    replace p204 := eq_true p204
    replace q204 := eq_true q204
    refine start_ (n := 9) (S := fun w' => w'.cell? (ad201.add ((x5_1).toNat * 2)) = some (.int .i64 ((rd_T66 l1 x5_1).f0)) ∧ w'.cell? ⟨(ad201.add ((x5_1).toNat * 2)).block, (ad201.add ((x5_1).toNat * 2)).off + 1, none⟩ = some (.int .i64 ((rd_T66 l1 x5_1).f1)) ∧ w'.cell? (ad200.add ((x5_1).toNat * 2)) = some (.int .i64 ((rd_T66 l0 x5_1).f0)) ∧ w'.cell? ⟨(ad200.add ((x5_1).toNat * 2)).block, (ad200.add ((x5_1).toNat * 2)).off + 1, none⟩ = some (.int .i64 ((rd_T66 l0 x5_1).f1))) (ds := []) spec_CompareShapes.m0 (by kernel_rfl) rfl rfl ⟨(pc HB.out hw203_0), (pc HB.out hw203_1), (pc HB.out hw204_0), (pc HB.out hw204_1)⟩ (fun hHeld => ?_); refine with_tabW spec_CompareShapes.tab10 spec_CompareShapes.bits10 (fun HT_ HW_ => ?_)
    generalize w14.drew = w15 at HB hx203_0 hx203_1 hx204_0 hx204_1 hHeld ⊢
    refine pure_ (i := 0) (N := some 31) (v := ?_) (a' := ?_) spec_CompareShapes.m1 rfl rfl zA (fun _ _ _ h => h) (Or.inl ⟨by rfl, ?_⟩) ?_ ?_
    rotate_left
    ·intro w'
     go_simp
     rfl
    rotate_left
    ·exact zP
    refine pure_ (i := 1) (N := some 32) (v := ?_) (a' := ?_) spec_CompareShapes.m2 rfl rfl zA (fun _ _ _ h => h) (Or.inl ⟨by rfl, ?_⟩) ?_ ?_
    rotate_left
    ·intro w'
     go_simp
     rfl
    rotate_left
    ·exact zP
    refine pure_ (i := 2) (N := some 33) (v := ?_) (a' := ?_) spec_CompareShapes.m3 rfl rfl zA (fun _ _ _ h => h) (Or.inl ⟨by rfl, ?_⟩) ?_ ?_
    rotate_left
    ·intro w'
     go_simp
     rfl
    rotate_left
    ·exact zP
    refine pure_ (i := 4) (N := some 35) (v := ?_) (a' := ?_) spec_CompareShapes.m4 rfl rfl zA (fun _ _ _ h => h) (Or.inl ⟨by rfl, ?_⟩) ?_ ?_
    rotate_left
    ·intro w'
     go_simp
     rfl
    rotate_left
    ·exact zP
    refine pure_ (i := 5) (N := some 36) (v := ?_) (a' := ?_) spec_CompareShapes.m5 rfl rfl zA (fun _ _ _ h => h) (Or.inl ⟨by rfl, ?_⟩) ?_ ?_
    rotate_left
    ·intro w'
     go_simp
     rfl
    rotate_left
    ·exact zP
    refine pure_ (i := 6) (N := some 37) (v := ?_) (a' := ?_) spec_CompareShapes.m6 rfl rfl zA (fun _ _ _ h => h) (Or.inl ⟨by rfl, ?_⟩) ?_ ?_
    rotate_left
    ·intro w'
     go_simp
     rfl
    rotate_left
    ·exact zP
    refine take_ (i := 3) (N := some 34) (v := ?_) (a' := ?_) spec_CompareShapes.m7 rfl rfl (take_ofW HT_.out HW_.out (by kernel_rfl)) (fun _ _ _ h => h) (Or.inl ⟨by rfl, ?_⟩) hHeld ?_ ?_
    rotate_left
    ·rintro w' ⟨s0, s1, s2, s3⟩
     go_simp
     rfl
    rotate_left
    ·exact zP
    refine take_ (i := 7) (N := some 38) (v := ?_) (a' := ?_) spec_CompareShapes.m8 rfl rfl (take_ofW HT_.out HW_.out (by kernel_rfl)) (fun _ _ _ h => h) (Or.inl ⟨by rfl, ?_⟩) hHeld ?_ ?_
    rotate_left
    ·rintro w' ⟨s0, s1, s2, s3⟩
     go_simp
     rfl
    rotate_left
    ·exact zP
    refine one_ (i := 8) (N := some 39) spec_CompareShapes.m9 rfl rfl (one_of HT_.out (by kernel_rfl)) (by decide) (fun K hK => ?_)
    refine goes_ Tryz.func112 (by kernel_rfl) rfl #[.agg #[.int .i64 ((rd_T66 l1 x5_1).f0), .int .i64 ((rd_T66 l1 x5_1).f1)], .agg #[.int .i64 ((rd_T66 l0 x5_1).f0), .int .i64 ((rd_T66 l0 x5_1).f1)]] (by rfl) rfl rfl zL ?_
    with_reducible refine (spec_l02Less.calls ((rd_T66 l1 x5_1).f0) ((rd_T66 l1 x5_1).f1) ((rd_T66 l0 x5_1).f0) ((rd_T66 l0 x5_1).f1) true _ A11.out).mono ?_
    rintro e w16 ⟨rfl, hb⟩
    refine ⟨_, rfl, ?_⟩
    have n0_ := am (Bb6 zB hb)
    clear HB
    have HB := n0_
    clear n0_
    (try clear hb)
    (try clear hb2)
    (try clear hk)
    (try clear hi)
    refine hK.out _ _ ⟨(pc HB.out hw203_0), (pc HB.out hw203_1), (pc HB.out hw204_0), (pc HB.out hw204_1)⟩ (fun hHeld => ?_)
    clear hK K
    refine norm_ (a' := ?_) ?_ ?_
    rotate_left
    ·show Act.put _ (some 39) _ = _
     simp only [Act.put, sa, i64_w, i32_w]
     rfl
    refine done_ (done_of HT_.out (by kernel_rfl)) ?_
    try go_wp2
    go_ret
    exact ⟨zE, zB⟩
   replace c12 := ef c12
   subst c12
   have H1 : (spec_CompareShapes.l0 k1 l0 l1 (wrap64 (x5_1 + 1))) = some r := by first | (rw [if_neg (show ¬ (false = true) by decide)] at H; exact H) | rfl
   clear H
   have H := H1
   clear H1
   have H' := am H
   clear H
   try go_wp2
   have n0_ := am (Bb3 HB.out)
   clear HB
   have HB := n0_
   clear n0_
   have p200 : 0 ≤ (x5_1 : Int) := zD
   have q200 : x5_1 < (l0.length : Int) := zD
   obtain ⟨ad200, e200, hx200_0, hx200_1⟩ := at_T66 HR0.out x5_1 p200 q200
   have hw200_1 := hx200_1
   have hw200_0 := hx200_0
   cases e200
   replace hx200_0 := pc HB.out hx200_0
   replace hx200_1 := pc HB.out hx200_1
   replace p200 := eq_true p200
   replace q200 := eq_true q200
   have p201 : 0 ≤ (x5_1 : Int) := zD
   have q201 : x5_1 < (l1.length : Int) := zD
   obtain ⟨ad201, e201, hx201_0, hx201_1⟩ := at_T66 HR1.out x5_1 p201 q201
   have hw201_1 := hx201_1
   have hw201_0 := hx201_0
   cases e201
   replace hx201_0 := pc HB.out hx201_0
   replace hx201_1 := pc HB.out hx201_1
   replace p201 := eq_true p201
   replace q201 := eq_true q201
   refine start_ (n := 9) (S := fun w' => w'.cell? (ad200.add ((x5_1).toNat * 2)) = some (.int .i64 ((rd_T66 l0 x5_1).f0)) ∧ w'.cell? ⟨(ad200.add ((x5_1).toNat * 2)).block, (ad200.add ((x5_1).toNat * 2)).off + 1, none⟩ = some (.int .i64 ((rd_T66 l0 x5_1).f1)) ∧ w'.cell? (ad201.add ((x5_1).toNat * 2)) = some (.int .i64 ((rd_T66 l1 x5_1).f0)) ∧ w'.cell? ⟨(ad201.add ((x5_1).toNat * 2)).block, (ad201.add ((x5_1).toNat * 2)).off + 1, none⟩ = some (.int .i64 ((rd_T66 l1 x5_1).f1))) (ds := []) spec_CompareShapes.m0 (by kernel_rfl) rfl rfl ⟨(pc HB.out hw200_0), (pc HB.out hw200_1), (pc HB.out hw201_0), (pc HB.out hw201_1)⟩ (fun hHeld => ?_); refine with_tabW spec_CompareShapes.tab8 spec_CompareShapes.bits8 (fun HT_ HW_ => ?_)
   generalize wr.drew = w17 at HB hx200_0 hx200_1 hx201_0 hx201_1 hHeld ⊢
   refine pure_ (i := 0) (N := some 22) (v := ?_) (a' := ?_) spec_CompareShapes.m1 rfl rfl zA (fun _ _ _ h => h) (Or.inl ⟨by rfl, ?_⟩) ?_ ?_
   rotate_left
   ·intro w'
    go_simp
    rfl
   rotate_left
   ·exact zP
   refine pure_ (i := 1) (N := some 23) (v := ?_) (a' := ?_) spec_CompareShapes.m2 rfl rfl zA (fun _ _ _ h => h) (Or.inl ⟨by rfl, ?_⟩) ?_ ?_
   rotate_left
   ·intro w'
    go_simp
    rfl
   rotate_left
   ·exact zP
   refine pure_ (i := 2) (N := some 24) (v := ?_) (a' := ?_) spec_CompareShapes.m3 rfl rfl zA (fun _ _ _ h => h) (Or.inl ⟨by rfl, ?_⟩) ?_ ?_
   rotate_left
   ·intro w'
    go_simp
    rfl
   rotate_left
   ·exact zP
   refine pure_ (i := 4) (N := some 26) (v := ?_) (a' := ?_) spec_CompareShapes.m4 rfl rfl zA (fun _ _ _ h => h) (Or.inl ⟨by rfl, ?_⟩) ?_ ?_
   rotate_left
   ·intro w'
    go_simp
    rfl
   rotate_left
   ·exact zP
   refine pure_ (i := 5) (N := some 27) (v := ?_) (a' := ?_) spec_CompareShapes.m5 rfl rfl zA (fun _ _ _ h => h) (Or.inl ⟨by rfl, ?_⟩) ?_ ?_
   rotate_left
   ·intro w'
    go_simp
    rfl
   rotate_left
   ·exact zP
   refine pure_ (i := 6) (N := some 28) (v := ?_) (a' := ?_) spec_CompareShapes.m6 rfl rfl zA (fun _ _ _ h => h) (Or.inl ⟨by rfl, ?_⟩) ?_ ?_
   rotate_left
   ·intro w'
    go_simp
    rfl
   rotate_left
   ·exact zP
   refine take_ (i := 3) (N := some 25) (v := ?_) (a' := ?_) spec_CompareShapes.m7 rfl rfl (take_ofW HT_.out HW_.out (by kernel_rfl)) (fun _ _ _ h => h) (Or.inl ⟨by rfl, ?_⟩) hHeld ?_ ?_
   rotate_left
   ·rintro w' ⟨s0, s1, s2, s3⟩
    go_simp
    rfl
   rotate_left
   ·exact zP
   refine take_ (i := 7) (N := some 29) (v := ?_) (a' := ?_) spec_CompareShapes.m8 rfl rfl (take_ofW HT_.out HW_.out (by kernel_rfl)) (fun _ _ _ h => h) (Or.inl ⟨by rfl, ?_⟩) hHeld ?_ ?_
   rotate_left
   ·rintro w' ⟨s0, s1, s2, s3⟩
    go_simp
    rfl
   rotate_left
   ·exact zP
   refine one_ (i := 8) (N := some 30) spec_CompareShapes.m9 rfl rfl (one_of HT_.out (by kernel_rfl)) (by decide) (fun K hK => ?_)
   refine goes_ Tryz.func112 (by kernel_rfl) rfl #[.agg #[.int .i64 ((rd_T66 l0 x5_1).f0), .int .i64 ((rd_T66 l0 x5_1).f1)], .agg #[.int .i64 ((rd_T66 l1 x5_1).f0), .int .i64 ((rd_T66 l1 x5_1).f1)]] (by rfl) rfl rfl zL ?_
   with_reducible refine (spec_l02Less.calls ((rd_T66 l0 x5_1).f0) ((rd_T66 l0 x5_1).f1) ((rd_T66 l1 x5_1).f0) ((rd_T66 l1 x5_1).f1) false _ A7.out).mono ?_
   rintro e w18 ⟨rfl, hb⟩
   refine ⟨_, rfl, ?_⟩
   have n0_ := am (Bb6 zB hb)
   clear HB
   have HB := n0_
   clear n0_
   (try clear hb)
   (try clear hb2)
   (try clear hk)
   (try clear hi)
   refine hK.out _ _ ⟨(pc HB.out hw200_0), (pc HB.out hw200_1), (pc HB.out hw201_0), (pc HB.out hw201_1)⟩ (fun hHeld => ?_)
   clear hK K
   refine norm_ (a' := ?_) ?_ ?_
   rotate_left
   ·show Act.put _ (some 30) _ = _
    simp only [Act.put, sa, i64_w, i32_w]
    rfl
   refine done_ (done_of HT_.out (by kernel_rfl)) ?_
   try go_wp2
   have n0_ := am (Bb3 HB.out)
   clear HB
   have HB := n0_
   clear n0_
   have p203 : 0 ≤ (x5_1 : Int) := zD
   have q203 : x5_1 < (l1.length : Int) := zD
   obtain ⟨ad203, e203, hx203_0, hx203_1⟩ := at_T66 HR1.out x5_1 p203 q203
   have hw203_1 := hx203_1
   have hw203_0 := hx203_0
   obtain rfl : ad201 = ad203 := (by injection e203)
   replace hx203_0 := pc HB.out hx203_0
   replace hx203_1 := pc HB.out hx203_1
   replace p203 := eq_true p203
   replace q203 := eq_true q203
   have p204 : 0 ≤ (x5_1 : Int) := zD
   have q204 : x5_1 < (l0.length : Int) := zD
   obtain ⟨ad204, e204, hx204_0, hx204_1⟩ := at_T66 HR0.out x5_1 p204 q204
   have hw204_1 := hx204_1
   have hw204_0 := hx204_0
   obtain rfl : ad200 = ad204 := (by injection e204)
   replace hx204_0 := pc HB.out hx204_0
   replace hx204_1 := pc HB.out hx204_1
   replace p204 := eq_true p204
   replace q204 := eq_true q204
   refine start_ (n := 9) (S := fun w' => w'.cell? (ad201.add ((x5_1).toNat * 2)) = some (.int .i64 ((rd_T66 l1 x5_1).f0)) ∧ w'.cell? ⟨(ad201.add ((x5_1).toNat * 2)).block, (ad201.add ((x5_1).toNat * 2)).off + 1, none⟩ = some (.int .i64 ((rd_T66 l1 x5_1).f1)) ∧ w'.cell? (ad200.add ((x5_1).toNat * 2)) = some (.int .i64 ((rd_T66 l0 x5_1).f0)) ∧ w'.cell? ⟨(ad200.add ((x5_1).toNat * 2)).block, (ad200.add ((x5_1).toNat * 2)).off + 1, none⟩ = some (.int .i64 ((rd_T66 l0 x5_1).f1))) (ds := []) spec_CompareShapes.m0 (by kernel_rfl) rfl rfl ⟨(pc HB.out hw203_0), (pc HB.out hw203_1), (pc HB.out hw204_0), (pc HB.out hw204_1)⟩ (fun hHeld => ?_); refine with_tabW spec_CompareShapes.tab10 spec_CompareShapes.bits10 (fun HT_ HW_ => ?_)
   generalize w18.drew = w19 at HB hx203_0 hx203_1 hx204_0 hx204_1 hHeld ⊢
   refine pure_ (i := 0) (N := some 31) (v := ?_) (a' := ?_) spec_CompareShapes.m1 rfl rfl zA (fun _ _ _ h => h) (Or.inl ⟨by rfl, ?_⟩) ?_ ?_
   rotate_left
   ·intro w'
    go_simp
    rfl
   rotate_left
   ·exact zP
   refine pure_ (i := 1) (N := some 32) (v := ?_) (a' := ?_) spec_CompareShapes.m2 rfl rfl zA (fun _ _ _ h => h) (Or.inl ⟨by rfl, ?_⟩) ?_ ?_
   rotate_left
   ·intro w'
    go_simp
    rfl
   rotate_left
   ·exact zP
   refine pure_ (i := 2) (N := some 33) (v := ?_) (a' := ?_) spec_CompareShapes.m3 rfl rfl zA (fun _ _ _ h => h) (Or.inl ⟨by rfl, ?_⟩) ?_ ?_
   rotate_left
   ·intro w'
    go_simp
    rfl
   rotate_left
   ·exact zP
   refine pure_ (i := 4) (N := some 35) (v := ?_) (a' := ?_) spec_CompareShapes.m4 rfl rfl zA (fun _ _ _ h => h) (Or.inl ⟨by rfl, ?_⟩) ?_ ?_
   rotate_left
   ·intro w'
    go_simp
    rfl
   rotate_left
   ·exact zP
   refine pure_ (i := 5) (N := some 36) (v := ?_) (a' := ?_) spec_CompareShapes.m5 rfl rfl zA (fun _ _ _ h => h) (Or.inl ⟨by rfl, ?_⟩) ?_ ?_
   rotate_left
   ·intro w'
    go_simp
    rfl
   rotate_left
   ·exact zP
   refine pure_ (i := 6) (N := some 37) (v := ?_) (a' := ?_) spec_CompareShapes.m6 rfl rfl zA (fun _ _ _ h => h) (Or.inl ⟨by rfl, ?_⟩) ?_ ?_
   rotate_left
   ·intro w'
    go_simp
    rfl
   rotate_left
   ·exact zP
   refine take_ (i := 3) (N := some 34) (v := ?_) (a' := ?_) spec_CompareShapes.m7 rfl rfl (take_ofW HT_.out HW_.out (by kernel_rfl)) (fun _ _ _ h => h) (Or.inl ⟨by rfl, ?_⟩) hHeld ?_ ?_
   rotate_left
   ·rintro w' ⟨s0, s1, s2, s3⟩
    go_simp
    rfl
   rotate_left
   ·exact zP
   refine take_ (i := 7) (N := some 38) (v := ?_) (a' := ?_) spec_CompareShapes.m8 rfl rfl (take_ofW HT_.out HW_.out (by kernel_rfl)) (fun _ _ _ h => h) (Or.inl ⟨by rfl, ?_⟩) hHeld ?_ ?_
   rotate_left
   ·rintro w' ⟨s0, s1, s2, s3⟩
    go_simp
    rfl
   rotate_left
   ·exact zP
   refine one_ (i := 8) (N := some 39) spec_CompareShapes.m9 rfl rfl (one_of HT_.out (by kernel_rfl)) (by decide) (fun K hK => ?_)
   refine goes_ Tryz.func112 (by kernel_rfl) rfl #[.agg #[.int .i64 ((rd_T66 l1 x5_1).f0), .int .i64 ((rd_T66 l1 x5_1).f1)], .agg #[.int .i64 ((rd_T66 l0 x5_1).f0), .int .i64 ((rd_T66 l0 x5_1).f1)]] (by rfl) rfl rfl zL ?_
   with_reducible refine (spec_l02Less.calls ((rd_T66 l1 x5_1).f0) ((rd_T66 l1 x5_1).f1) ((rd_T66 l0 x5_1).f0) ((rd_T66 l0 x5_1).f1) false _ A11.out).mono ?_
   rintro e w20 ⟨rfl, hb⟩
   refine ⟨_, rfl, ?_⟩
   have n0_ := am (Bb6 zB hb)
   clear HB
   have HB := n0_
   clear n0_
   (try clear hb)
   (try clear hb2)
   (try clear hk)
   (try clear hi)
   refine hK.out _ _ ⟨(pc HB.out hw203_0), (pc HB.out hw203_1), (pc HB.out hw204_0), (pc HB.out hw204_1)⟩ (fun hHeld => ?_)
   clear hK K
   refine norm_ (a' := ?_) ?_ ?_
   rotate_left
   ·show Act.put _ (some 39) _ = _
    simp only [Act.put, sa, i64_w, i32_w]
    rfl
   refine done_ (done_of HT_.out (by kernel_rfl)) ?_
   try go_wp2
   go_roundg k1
   case measure => have := HK1.out; omega
   case rel => exact ⟨(wrap64 (x5_1 + 1)), zS, H', ⟨by have := HK1.out; omega⟩, ⟨zB⟩⟩

/-! ### spec_l03Add: function 79 -/
def spec_l03Add.l0 : Nat → List (List (S66)) → List (S66) → List (List (S66)) → Bool → Int → Option ((List (List (S66))))
 | 0, _, _, _, _, _ => none
 | k + 1, x0, x1, x5, x6, x7 => if x7 < (x0.length : Int) then (if 0 ≤ x7 then ((spec_CompareShapes.f k x1 (rd_L3 x0 x7)).bind fun t213 => (if t213 = 0 then (some x0) else (if t213 < 0 then (if x6 = true then (if x5.length < 5864062014805 then (spec_l03Add.l0 k x0 x1 (x5 ++ [rd_L3 x0 x7]) x6 (wrap64 (x7 + 1))) else (none)) else (if x5.length < 5864062014805 then ((some (x5 ++ [x1] : List (List (S66)))).bind fun y218 => (if y218.length < 5864062014805 then (spec_l03Add.l0 k x0 x1 (y218 ++ [rd_L3 x0 x7]) true (wrap64 (x7 + 1))) else (none))) else (none))) else (if x5.length < 5864062014805 then (spec_l03Add.l0 k x0 x1 (x5 ++ [rd_L3 x0 x7]) x6 (wrap64 (x7 + 1))) else (none))))) else (none)) else (if x6 = true then (some x5) else (if x5.length < 5864062014805 then (some (x5 ++ [x1])) else (none)))
def spec_l03Add.f (k : Nat) (l0 : List (List (S66))) (l1 : List (S66)) : Option ((List (List (S66)))) := spec_l03Add.l0 k l0 l1 (([] : List (List (S66)))) false 0
theorem spec_l03Add.mono_l : ∀ k, (∀ y0 y1 y2 y3 y4, LeO (spec_l03Add.l0 k y0 y1 y2 y3 y4) (spec_l03Add.l0 (k + 1) y0 y1 y2 y3 y4))
 | 0 => fun _ _ _ _ _ r h => by simp [spec_l03Add.l0] at h
 | k + 1 => by
  have ih0 := spec_l03Add.mono_l k
  ·intro y0 y1 y2 y3 y4
   unfold spec_l03Add.l0
   with_reducible repeat' first | exact ih0 _ _ _ _ _ | exact spec_CompareShapes.mono _ _ _ | exact LeO.refl _ | exact LeO.none _ | refine LeO.ite ?_ ?_ | refine LeO.bind ?_ (fun _ => ?_)
theorem spec_l03Add.mono : ∀ a0 a1 k, LeO (spec_l03Add.f k a0 a1) (spec_l03Add.f (k + 1) a0 a1) := by
 intro a0 a1 k
 have ih0 := spec_l03Add.mono_l k
 unfold spec_l03Add.f
 with_reducible repeat' first | exact ih0 _ _ _ _ _ | exact spec_CompareShapes.mono _ _ _ | exact LeO.refl _ | exact LeO.none _ | refine LeO.ite ?_ ?_ | refine LeO.bind ?_ (fun _ => ?_)
set_option maxHeartbeats 8000000 in
set_option maxRecDepth 100000 in
theorem spec_l03Add.calls (k : Nat) (P0_ : Nat → Prop) (A0 : Option Addr) (c0 : Nat) (l0 : List (List (S66))) (P1_ : Nat → Prop) (A1 : Option Addr) (c1 : Nat) (l1 : List (S66)) (r : List (List (S66))) (w : World) (hs0 : Kd.V (Kd.slice 66 k66) 29 w w.heap.size (fun k_ => P0_ k_) (.slice A0 l0.length c0) l0) (hs1 : Kd.V k66 66 w w.heap.size (fun k_ => P1_ k_) (.slice A1 l1.length c1) l1) (h : spec_l03Add.f k l0 l1 = some r) :
  Calls Tryz.prog 79 #[.slice A0 l0.length c0, .slice A1 l1.length c1] w fun e w' => ∃ v0_ : Value, e = .returned (v0_) ∧ Kd.V (Kd.slice 66 k66) 29 w' w.heap.size (fun k_ => ((P0_ k_ ∨ P1_ k_) ∨ w.heap.size ≤ k_)) v0_ r ∧ Below w.heap.size w w' := by
 have HO0 := am (show Kd.V (Kd.slice 66 k66) 29 w w.heap.size (fun k_ => ((P0_ k_ ∨ P1_ k_) ∨ w.heap.size ≤ k_)) (.slice A0 l0.length c0) l0 from Kd.V_mono hs0 (fun k_ hk => .inl (.inl hk)))
 have HO1 := am (show Kd.V k66 66 w w.heap.size (fun k_ => ((P0_ k_ ∨ P1_ k_) ∨ w.heap.size ≤ k_)) (.slice A1 l1.length c1) l1 from Kd.V_mono hs1 (fun k_ hk => .inl (.inr hk)))
 have HB := am (Below.refl w.heap.size w)
 have H : (spec_l03Add.l0 k l0 l1 (([] : List (List (S66)))) false 0) = some r := h
 clear h
 obtain ⟨y206, hy206⟩ : ∃ y_ : List (List (S66)), y_ = (([] : List (List (S66)))) := ⟨_, rfl⟩
 replace H : (spec_l03Add.l0 k l0 l1 y206 false 0) = some r := by first | (rw [hy206]; with_reducible exact H) | (have H2_ := (Option.bind_some _ _).symm.trans H; rw [hy206]; with_reducible exact H2_) | (have H2_ := (Option.bind_some _ _).symm.trans H; with_reducible exact H2_) | with_reducible exact H | (rw [hy206]; exact H) | exact H
 have Ny206 := am hy206
 clear hy206
 have H' := am H
 clear H
 go_enter Tryz.func79, Tryz.ntmps79
 go_wp2_with (first | ((with_reducible refine gate_dst (N := 9) rfl ?_); refine Kd.N_lit (Kd.slice 66 k66) _ 29 ?hg (N' := 9) ?hd (xs := ([] : List (List (S66)))) (inner := []) (ok := (fun k_ => ((P0_ k_ ∨ P1_ k_) ∨ w.heap.size ≤ k_))) (okp := (fun k_ => ((P0_ k_ ∨ P1_ k_) ∨ w.heap.size ≤ k_))) ?hr ?hp (fun _ hk => hk) ((show ∀ k_, w.heap.size ≤ k_ → (fun k_ => ((P0_ k_ ∨ P1_ k_) ∨ w.heap.size ≤ k_)) k_ from fun k_ hk => (.inr (Nat.le_trans (Bb5 zB) hk))) _ (Nat.le_refl _)) (Below.refl _ _) (Nat.le_refl _) (by simp) ?_; (case hd => rfl); (case hg => rfl); (case hr => first | (go_simp; done) | (go_simp; rfl)); (case hp => exact (Reps.none _ _)); intro v207 w3 ho4 hb hg_ hnew_; clear hg_ hnew_; (first | rw [← Ny206.out] at ho4 | (simp only [Int.reduceToNat] at ho4; rw [← Ny206.out] at ho4)); have n0_ := am (Kd.V_elder' (by (with_reducible repeat (first | apply Kd.V_alloc | apply Kd.V_drewN | apply Kd.V_drew)); exact HO0.out) (Kd.N_base ho4) hb); have n1_ := am (Kd.V_elder' (by (with_reducible repeat (first | apply Kd.V_alloc | apply Kd.V_drewN | apply Kd.V_drew)); exact HO1.out) (Kd.N_base ho4) hb); have n2_ := am (Kd.N_lower ho4 (Bb5 zB)); have n3_ := am (Bb6 zB hb); clear HO0; clear HO1; clear HB; have HO0 := n0_; have HO1 := n1_; have HO208 := n2_; have HB := n3_; clear n0_ n1_ n2_ n3_; clear hb ho4))
 go_loopg [5, 6, 7] k (fun kq v5 v6 v7 w' => ∃ (x5_1 : List (List (S66))) (x6_1 : Bool) (x7_1 : Int), v6 = .bool x6_1 ∧ v7 = .int .i64 x7_1 ∧ Aside0 (spec_l03Add.l0 kq l0 l1 x5_1 x6_1 x7_1 = some r) ∧ Aside0 (kq ≤ k) ∧ Aside0 (Kd.V (Kd.slice 66 k66) 29 w' w.heap.size (fun k_ => ((P0_ k_ ∨ P1_ k_) ∨ w.heap.size ≤ k_) ∧ some k_ ≠ (v5 : Value).ownBlock) (.slice A0 l0.length c0) l0) ∧ Aside0 (Kd.V k66 66 w' w.heap.size (fun k_ => ((P0_ k_ ∨ P1_ k_) ∨ w.heap.size ≤ k_) ∧ some k_ ≠ (v5 : Value).ownBlock) (.slice A1 l1.length c1) l1) ∧ Aside0 (Kd.N (Kd.slice 66 k66) 29 w' w.heap.size (fun k_ => ((P0_ k_ ∨ P1_ k_) ∨ w.heap.size ≤ k_)) v5 x5_1) ∧ Aside0 (Below w.heap.size w w'))
 case atStart => exact ⟨(y206), (false), (0), zS, zS, H', ⟨Nat.le_refl _⟩, ⟨by (with_reducible repeat (first | apply Kd.V_alloc | apply Kd.V_drewN | apply Kd.V_drew)); exact HO0.out⟩, ⟨by (with_reducible repeat (first | apply Kd.V_alloc | apply Kd.V_drewN | apply Kd.V_drew)); exact HO1.out⟩, ⟨by (with_reducible repeat (first | apply Kd.N_alloc | apply Kd.N_drewN | apply Kd.N_drew)); exact HO208.out⟩, ⟨zB⟩⟩
 case round =>
  clear H'
  try clear c1
  try clear p2
  obtain ⟨x5_1, x6_1, x7_1, rfl, rfl, HA, HK1, HO_0, HO_1, HO_5, HB⟩ := hrel
  cases gk with
  | zero => exact absurd HA.out (by simp [spec_l03Add.l0])
  | succ k1 =>
   have H := HA.out
   clear HA
   simp only [spec_l03Add.l0] at H
   by_cases c5 : x7_1 < (l0.length : Int)
   rotate_left
   ·rw [if_neg c5] at H
    have c5b0 : decide (x7_1 < (l0.length : Int)) = false := decide_eq_false c5
    clear c5
    by_cases c23 : x6_1 = true
    ·subst c23
     have H1 : (some x5_1) = some r := by first | (rw [if_pos rfl] at H; exact H) | rfl
     clear H
     have H := H1
     clear H1
     obtain rfl := oi H
     go_wp2
     go_ret
     exact ⟨_, zE, Kd.N_V (by (with_reducible repeat (first | apply Kd.N_alloc | apply Kd.N_drewN | apply Kd.N_drew)); exact HO_5.out), zB⟩
    replace c23 := ef c23
    subst c23
    have H1 : (if x5_1.length < 5864062014805 then (some (x5_1 ++ [l1])) else (none)) = some r := by first | (rw [if_neg (show ¬ (false = true) by decide)] at H; exact H) | rfl
    clear H
    have H := H1
    clear H1
    by_cases c24 : x5_1.length < 5864062014805
    rotate_left
    ·rw [if_neg c24] at H
     exact absurd H (by simp)
    rw [if_pos c24] at H
    have LMc24 := am c24
    clear c24
    obtain ⟨y209, hy209⟩ : ∃ y_ : List (List (S66)), y_ = (x5_1 ++ [l1]) := ⟨_, rfl⟩
    replace H : (some y209) = some r := by first | (rw [hy209]; with_reducible exact H) | (have H2_ := (Option.bind_some _ _).symm.trans H; rw [hy209]; with_reducible exact H2_) | (have H2_ := (Option.bind_some _ _).symm.trans H; with_reducible exact H2_) | with_reducible exact H | (rw [hy209]; exact H) | exact H
    have Ny209 := am hy209
    clear hy209
    obtain rfl := oi H
    go_wp2_with (first | ((with_reducible refine gate_builtin (b := .append) (xs := #[.tmp 44, .tmp 46]) rfl ?_); at_builtin; refine Kd.N_append (Kd.slice 66 k66) (w0 := w) w.heap.size rfl (.tmp 44) (.tmp 46) 63 29 (.slice none 0 0) 24 rfl Tryz.underlying63 info29 rfl (by decide) (by omega) u5 x5_1 l1 [.slice A1 l1.length c1] (fun k_ => ((P0_ k_ ∨ P1_ k_) ∨ w.heap.size ≤ k_)) (fun k_ => ((fun k_ => ((P0_ k_ ∨ P1_ k_) ∨ w.heap.size ≤ k_))) k_ ∧ some k_ ≠ (u5 : Value).ownBlock) rfl rfl ?aP (fun _ hk => hk) ?aF ?aO ?aB ?aS ?aL ?_; (case aP => exact (Kd.FK_slice_mk (Kd.V_reads' (Kd.V_mono (ok' := (fun k_ => ((fun k_ => ((P0_ k_ ∨ P1_ k_) ∨ w.heap.size ≤ k_))) k_ ∧ some k_ ≠ (u5 : Value).ownBlock)) (HO_1.out) (fun k_ hk => ⟨hk.1, hk.2⟩))).2.1 (Kd.V_F (Kd.V_mono (ok' := (fun k_ => ((fun k_ => ((P0_ k_ ∨ P1_ k_) ∨ w.heap.size ≤ k_))) k_ ∧ some k_ ≠ (u5 : Value).ownBlock)) (HO_1.out) (fun k_ hk => ⟨hk.1, hk.2⟩))))); (case aB => exact zB); (case aF => exact (fun k_ hk => (.inr (Nat.le_trans (Bb5 zB) hk)))); (case aO => exact (by (with_reducible repeat (first | apply Kd.N_alloc | apply Kd.N_drewN | apply Kd.N_drew)); exact HO_5.out)); (case aS => exact (Bb5 zB)); (case aL => first | (have := LMc24.out; omega) | (have h_ := Nat.le_of_lt LMc24.out; exact h_)); intro v210 w25 ho hb hg hat; rw [← Ny209.out] at ho; have n0_ := am (Kd.V_afterv (ok := (fun k_ => ((P0_ k_ ∨ P1_ k_) ∨ w.heap.size ≤ k_))) (by (with_reducible repeat (first | apply Kd.V_alloc | apply Kd.V_drewN | apply Kd.V_drew)); exact HO_0.out) hg hat); have n1_ := am (Kd.V_afterv (ok := (fun k_ => ((P0_ k_ ∨ P1_ k_) ∨ w.heap.size ≤ k_))) (by (with_reducible repeat (first | apply Kd.V_alloc | apply Kd.V_drewN | apply Kd.V_drew)); exact HO_1.out) hg hat); have n2_ := am (hb); have n3_ := am (ho); clear HO_0; clear HO_1; clear HB; clear HO_5; have HO_0 := n0_; have HO_1 := n1_; have HB := n2_; have HO211 := n3_; clear n0_ n1_ n2_ n3_; clear ho hb hg hat))
    go_ret
    exact ⟨_, zE, Kd.N_V (by (with_reducible repeat (first | apply Kd.N_alloc | apply Kd.N_drewN | apply Kd.N_drew)); exact HO211.out), zB⟩
   rw [if_pos c5] at H
   have c5b0 : decide (x7_1 < (l0.length : Int)) = true := decide_eq_true c5
   clear c5
   by_cases c6 : 0 ≤ x7_1
   rotate_left
   ·rw [if_neg c6] at H
    exact absurd H (by simp)
   rw [if_pos c6] at H
   have c6b0 : decide (0 ≤ x7_1) = true := decide_eq_true c6
   clear c6
   replace H := ob H
   obtain ⟨t213, A70, H⟩ := H
   (try dsimp only at H)
   have A7 := am A70
   clear A70
   by_cases c8 : t213 = 0
   ·rw [if_pos c8] at H
    have c8b0 : (t213 == 0) = true := beq_iff_eq.mpr c8
    have c8b1 : (t213 != 0) = false := bne_eq_false_iff_eq.mpr c8
    clear c8
    obtain rfl := oi H
    have p212 : 0 ≤ (x7_1 : Int) := zD
    have q212 : x7_1 < (l0.length : Int) := zD
    obtain ⟨ad212, A212_0, c212_0, e212, hx212_0, hl212_0, hi212_0⟩ := at_L3 (Kd.V_reads' HO_0.out).2.2 x7_1 p212 q212
    cases e212
    obtain ⟨ce212, hce212, hMe212, hcc212⟩ := Kd.V_get HO_0.out [] x7_1 p212 (by first | exact q212 | exact zD | (have e_ := (Kd.V_reads' HO_0.out).1; omega))
    obtain ⟨ua212_0, uc212_0, rfl, ul212_0, ge212_0⟩ := Kd.FK_slice_open hMe212
    have hv212_0 := hcc212 0 _ rfl
    rw [Nat.add_zero, show ((Kd.slice 66 k66)).sz = 1 from rfl, Nat.mul_one] at hv212_0
    replace hv212_0 := oi (hv212_0.symm.trans hx212_0)
    injection hv212_0 with hva_ hvn_ hvc_
    rw [hva_] at ge212_0
    rw [hvc_] at ul212_0
    have HL212_0 := am (show Kd.V k66 66 _ w.heap.size _ _ (rd_L3 l0 x7_1) from Kd.V_mk ul212_0 ge212_0)
    clear hva_ hvn_ hvc_ ge212_0 ul212_0
    clear hcc212 hce212
    have HR212_0 := am hi212_0
    have HC212_0 := am hl212_0
    clear hi212_0 hl212_0
    replace p212 := eq_true p212
    replace q212 := eq_true q212
    go_wp2_with (first | ((with_reducible refine gate_callee (f := 115) rfl ?_); refine goesL_ (some 21) rfl rfl Tryz.func115 (by kernel_rfl) rfl #[.slice A1 l1.length c1, .slice A212_0 (rd_L3 l0 x7_1).length c212_0] rfl zL ?_; (with_reducible refine (spec_CompareShapes.calls k1 _ _ l1 _ _ (rd_L3 l0 x7_1) t213 _ ?side1 ?side2 ?side3 ?side4 A7.out).mono ?_); (case side1 => repeat (first | exact (Kd.V_reads' HO_1.out).2.2 | (with_reducible refine Kd.C_alloc ?_ _) | (with_reducible refine Kd.C_drewN ?_ _) | (with_reducible refine Kd.C_drew ?_))); (case side2 => exact (Kd.V_reads' HO_1.out).2.1); (case side3 => repeat (first | exact (by repeat (first | (with_reducible exact HR212_0.out) | (with_reducible refine Kd.C_alloc ?_ _) | (with_reducible refine Kd.C_drewN ?_ _) | (with_reducible refine Kd.C_drew ?_) | exact HR212_0.out)) | (with_reducible refine Kd.C_alloc ?_ _) | (with_reducible refine Kd.C_drewN ?_ _) | (with_reducible refine Kd.C_drew ?_))); (case side4 => exact HC212_0.out); rintro e w9 ⟨rfl, hb⟩; refine ⟨_, rfl, ?_⟩; have n0_ := am (Kd.V_below (by (with_reducible repeat (first | apply Kd.V_alloc | apply Kd.V_drewN | apply Kd.V_drew)); exact HO_0.out) hb); have n1_ := am (Kd.V_below (by (with_reducible repeat (first | apply Kd.V_alloc | apply Kd.V_drewN | apply Kd.V_drew)); exact HO_1.out) hb); have n2_ := am (Kd.N_below (by (with_reducible repeat (first | apply Kd.N_alloc | apply Kd.N_drewN | apply Kd.N_drew)); exact HO_5.out) hb); have n3_ := am (Kd.V_below (by (with_reducible repeat (first | apply Kd.V_alloc | apply Kd.V_drewN | apply Kd.V_drew)); exact HL212_0.out) hb); have n4_ := am (Kd.C_below (by repeat (first | (with_reducible exact HR212_0.out) | (with_reducible refine Kd.C_alloc ?_ _) | (with_reducible refine Kd.C_drewN ?_ _) | (with_reducible refine Kd.C_drew ?_) | exact HR212_0.out)) hb); have n5_ := am (Bb6 zB hb); clear HO_0; clear HO_1; clear HO_5; clear HL212_0; clear HR212_0; clear HB; have HO_0 := n0_; have HO_1 := n1_; have HO_5 := n2_; have HL212_0 := n3_; have HR212_0 := n4_; have HB := n5_; clear n0_ n1_ n2_ n3_ n4_ n5_; (try clear hb); (try clear hb2); (try clear hk); (try clear hi)))
    go_ret
    exact ⟨_, zE, by (with_reducible repeat (first | apply Kd.V_alloc | apply Kd.V_drewN | apply Kd.V_drew)); exact Kd.V_mono HO_0.out (fun _ hk => hk.1), zB⟩
   rw [if_neg c8] at H
   have c8b0 : (t213 == 0) = false := beq_eq_false_iff_ne.mpr c8
   have c8b1 : (t213 != 0) = true := bne_iff_ne.mpr c8
   by_cases c10 : t213 < 0
   rotate_left
   ·rw [if_neg c10] at H
    have c10b0 : decide (t213 < 0) = false := decide_eq_false c10
    clear c10
    by_cases c20 : x5_1.length < 5864062014805
    rotate_left
    ·rw [if_neg c20] at H
     exact absurd H (by simp)
    rw [if_pos c20] at H
    have LMc20 := am c20
    clear c20
    obtain ⟨y226, hy226⟩ : ∃ y_ : List (List (S66)), y_ = (x5_1 ++ [rd_L3 l0 x7_1]) := ⟨_, rfl⟩
    replace H : (spec_l03Add.l0 k1 l0 l1 y226 x6_1 (wrap64 (x7_1 + 1))) = some r := by first | (rw [hy226]; with_reducible exact H) | (have H2_ := (Option.bind_some _ _).symm.trans H; rw [hy226]; with_reducible exact H2_) | (have H2_ := (Option.bind_some _ _).symm.trans H; with_reducible exact H2_) | with_reducible exact H | (rw [hy226]; exact H) | exact H
    have Ny226 := am hy226
    clear hy226
    have H' := am H
    clear H
    have p212 : 0 ≤ (x7_1 : Int) := zD
    have q212 : x7_1 < (l0.length : Int) := zD
    obtain ⟨ad212, A212_0, c212_0, e212, hx212_0, hl212_0, hi212_0⟩ := at_L3 (Kd.V_reads' HO_0.out).2.2 x7_1 p212 q212
    cases e212
    obtain ⟨ce212, hce212, hMe212, hcc212⟩ := Kd.V_get HO_0.out [] x7_1 p212 (by first | exact q212 | exact zD | (have e_ := (Kd.V_reads' HO_0.out).1; omega))
    obtain ⟨ua212_0, uc212_0, rfl, ul212_0, ge212_0⟩ := Kd.FK_slice_open hMe212
    have hv212_0 := hcc212 0 _ rfl
    rw [Nat.add_zero, show ((Kd.slice 66 k66)).sz = 1 from rfl, Nat.mul_one] at hv212_0
    replace hv212_0 := oi (hv212_0.symm.trans hx212_0)
    injection hv212_0 with hva_ hvn_ hvc_
    rw [hva_] at ge212_0
    rw [hvc_] at ul212_0
    have HL212_0 := am (show Kd.V k66 66 _ w.heap.size _ _ (rd_L3 l0 x7_1) from Kd.V_mk ul212_0 ge212_0)
    clear hva_ hvn_ hvc_ ge212_0 ul212_0
    clear hcc212 hce212
    have HR212_0 := am hi212_0
    have HC212_0 := am hl212_0
    clear hi212_0 hl212_0
    replace p212 := eq_true p212
    replace q212 := eq_true q212
    go_wp2_with (first | ((with_reducible refine gate_callee (f := 115) rfl ?_); refine goesL_ (some 21) rfl rfl Tryz.func115 (by kernel_rfl) rfl #[.slice A1 l1.length c1, .slice A212_0 (rd_L3 l0 x7_1).length c212_0] rfl zL ?_; (with_reducible refine (spec_CompareShapes.calls k1 _ _ l1 _ _ (rd_L3 l0 x7_1) t213 _ ?side1 ?side2 ?side3 ?side4 A7.out).mono ?_); (case side1 => repeat (first | exact (Kd.V_reads' HO_1.out).2.2 | (with_reducible refine Kd.C_alloc ?_ _) | (with_reducible refine Kd.C_drewN ?_ _) | (with_reducible refine Kd.C_drew ?_))); (case side2 => exact (Kd.V_reads' HO_1.out).2.1); (case side3 => repeat (first | exact (by repeat (first | (with_reducible exact HR212_0.out) | (with_reducible refine Kd.C_alloc ?_ _) | (with_reducible refine Kd.C_drewN ?_ _) | (with_reducible refine Kd.C_drew ?_) | exact HR212_0.out)) | (with_reducible refine Kd.C_alloc ?_ _) | (with_reducible refine Kd.C_drewN ?_ _) | (with_reducible refine Kd.C_drew ?_))); (case side4 => exact HC212_0.out); rintro e w21 ⟨rfl, hb⟩; refine ⟨_, rfl, ?_⟩; have n0_ := am (Kd.V_below (by (with_reducible repeat (first | apply Kd.V_alloc | apply Kd.V_drewN | apply Kd.V_drew)); exact HO_0.out) hb); have n1_ := am (Kd.V_below (by (with_reducible repeat (first | apply Kd.V_alloc | apply Kd.V_drewN | apply Kd.V_drew)); exact HO_1.out) hb); have n2_ := am (Kd.N_below (by (with_reducible repeat (first | apply Kd.N_alloc | apply Kd.N_drewN | apply Kd.N_drew)); exact HO_5.out) hb); have n3_ := am (Kd.V_below (by (with_reducible repeat (first | apply Kd.V_alloc | apply Kd.V_drewN | apply Kd.V_drew)); exact HL212_0.out) hb); have n4_ := am (Kd.C_below (by repeat (first | (with_reducible exact HR212_0.out) | (with_reducible refine Kd.C_alloc ?_ _) | (with_reducible refine Kd.C_drewN ?_ _) | (with_reducible refine Kd.C_drew ?_) | exact HR212_0.out)) hb); have n5_ := am (Bb6 zB hb); clear HO_0; clear HO_1; clear HO_5; clear HL212_0; clear HR212_0; clear HB; have HO_0 := n0_; have HO_1 := n1_; have HO_5 := n2_; have HL212_0 := n3_; have HR212_0 := n4_; have HB := n5_; clear n0_ n1_ n2_ n3_ n4_ n5_; (try clear hb); (try clear hb2); (try clear hk); (try clear hi); have p225 : 0 ≤ (x7_1 : Int) := zD; have q225 : x7_1 < (l0.length : Int) := zD; obtain ⟨ad225, A225_0, c225_0, e225, hx225_0, hl225_0, hi225_0⟩ := at_L3 (Kd.V_reads' HO_0.out).2.2 x7_1 p225 q225; obtain rfl : ad212 = ad225 := (by injection e225); obtain ⟨ce225, hce225, hMe225, hcc225⟩ := Kd.V_get HO_0.out [] x7_1 p225 (by first | exact q225 | exact zD | (have e_ := (Kd.V_reads' HO_0.out).1; omega)); obtain ⟨ua225_0, uc225_0, rfl, ul225_0, ge225_0⟩ := Kd.FK_slice_open hMe225; have hv225_0 := hcc225 0 _ rfl; rw [Nat.add_zero, show ((Kd.slice 66 k66)).sz = 1 from rfl, Nat.mul_one] at hv225_0; replace hv225_0 := oi (hv225_0.symm.trans hx225_0); injection hv225_0 with hva_ hvn_ hvc_; rw [hva_] at ge225_0; rw [hvc_] at ul225_0; have HL225_0 := am (show Kd.V k66 66 _ w.heap.size _ _ (rd_L3 l0 x7_1) from Kd.V_mk ul225_0 ge225_0); clear hva_ hvn_ hvc_ ge225_0 ul225_0; clear hcc225 hce225; have HR225_0 := am hi225_0; have HC225_0 := am hl225_0; clear hi225_0 hl225_0; replace p225 := eq_true p225; replace q225 := eq_true q225) | ((with_reducible refine gate_builtin (b := .append) (xs := #[.tmp 35, .tmp 40]) rfl ?_); at_builtin; refine Kd.N_append (Kd.slice 66 k66) (w0 := w) w.heap.size rfl (.tmp 35) (.tmp 40) 63 29 (.slice none 0 0) 24 rfl Tryz.underlying63 info29 rfl (by decide) (by omega) u5 x5_1 (rd_L3 l0 x7_1) [.slice A225_0 (rd_L3 l0 x7_1).length c225_0] (fun k_ => ((P0_ k_ ∨ P1_ k_) ∨ w.heap.size ≤ k_)) (fun k_ => ((fun k_ => ((P0_ k_ ∨ P1_ k_) ∨ w.heap.size ≤ k_))) k_ ∧ some k_ ≠ (u5 : Value).ownBlock) rfl rfl ?aP (fun _ hk => hk) ?aF ?aO ?aB ?aS ?aL ?_; (case aP => exact (Kd.FK_slice_mk (Kd.V_reads' (Kd.V_mono (ok' := (fun k_ => ((fun k_ => ((P0_ k_ ∨ P1_ k_) ∨ w.heap.size ≤ k_))) k_ ∧ some k_ ≠ (u5 : Value).ownBlock)) (HL225_0.out) (fun k_ hk => ⟨hk.1, hk.2⟩))).2.1 (Kd.V_F (Kd.V_mono (ok' := (fun k_ => ((fun k_ => ((P0_ k_ ∨ P1_ k_) ∨ w.heap.size ≤ k_))) k_ ∧ some k_ ≠ (u5 : Value).ownBlock)) (HL225_0.out) (fun k_ hk => ⟨hk.1, hk.2⟩))))); (case aB => exact zB); (case aF => exact (fun k_ hk => (.inr (Nat.le_trans (Bb5 zB) hk)))); (case aO => exact (by (with_reducible repeat (first | apply Kd.N_alloc | apply Kd.N_drewN | apply Kd.N_drew)); exact HO_5.out)); (case aS => exact (Bb5 zB)); (case aL => first | (have := LMc20.out; omega) | (have h_ := Nat.le_of_lt LMc20.out; exact h_)); intro v227 w22 ho hb hg hat; rw [← Ny226.out] at ho; have n0_ := am (Kd.V_afterv (ok := (fun k_ => ((P0_ k_ ∨ P1_ k_) ∨ w.heap.size ≤ k_))) (by (with_reducible repeat (first | apply Kd.V_alloc | apply Kd.V_drewN | apply Kd.V_drew)); exact HO_0.out) hg hat); have n1_ := am (Kd.V_afterv (ok := (fun k_ => ((P0_ k_ ∨ P1_ k_) ∨ w.heap.size ≤ k_))) (by (with_reducible repeat (first | apply Kd.V_alloc | apply Kd.V_drewN | apply Kd.V_drew)); exact HO_1.out) hg hat); have n2_ := am (Kd.V_afterv (ok := (fun k_ => ((P0_ k_ ∨ P1_ k_) ∨ w.heap.size ≤ k_))) (by (with_reducible repeat (first | apply Kd.V_alloc | apply Kd.V_drewN | apply Kd.V_drew)); exact HL212_0.out) hg hat); have n3_ := am (Kd.V_afterv (ok := (fun k_ => ((P0_ k_ ∨ P1_ k_) ∨ w.heap.size ≤ k_))) (by (with_reducible repeat (first | apply Kd.V_alloc | apply Kd.V_drewN | apply Kd.V_drew)); exact HL225_0.out) hg hat); have n4_ := am (hb); have n5_ := am (ho); clear HO_0; clear HO_1; clear HL212_0; clear HL225_0; clear HB; clear HO_5; have HO_0 := n0_; have HO_1 := n1_; have HL212_0 := n2_; have HL225_0 := n3_; have HB := n4_; have HO228 := n5_; clear n0_ n1_ n2_ n3_ n4_ n5_; clear ho hb hg hat))
    go_roundg k1
    case measure => have := HK1.out; omega
    case rel => exact ⟨(y226), (x6_1), (wrap64 (x7_1 + 1)), zS, zS, H', ⟨by have := HK1.out; omega⟩, ⟨by (with_reducible repeat (first | apply Kd.V_alloc | apply Kd.V_drewN | apply Kd.V_drew)); exact HO_0.out⟩, ⟨by (with_reducible repeat (first | apply Kd.V_alloc | apply Kd.V_drewN | apply Kd.V_drew)); exact HO_1.out⟩, ⟨by (with_reducible repeat (first | apply Kd.N_alloc | apply Kd.N_drewN | apply Kd.N_drew)); exact HO228.out⟩, ⟨zB⟩⟩
   rw [if_pos c10] at H
   have c10b0 : decide (t213 < 0) = true := decide_eq_true c10
   clear c10
   by_cases c11 : x6_1 = true
   ·subst c11
    have H1 : (if x5_1.length < 5864062014805 then (spec_l03Add.l0 k1 l0 l1 (x5_1 ++ [rd_L3 l0 x7_1]) true (wrap64 (x7_1 + 1))) else (none)) = some r := by first | (rw [if_pos rfl] at H; exact H) | rfl
    clear H
    have H := H1
    clear H1
    by_cases c12 : x5_1.length < 5864062014805
    rotate_left
    ·rw [if_neg c12] at H
     exact absurd H (by simp)
    rw [if_pos c12] at H
    have LMc12 := am c12
    clear c12
    obtain ⟨y215, hy215⟩ : ∃ y_ : List (List (S66)), y_ = (x5_1 ++ [rd_L3 l0 x7_1]) := ⟨_, rfl⟩
    replace H : (spec_l03Add.l0 k1 l0 l1 y215 true (wrap64 (x7_1 + 1))) = some r := by first | (rw [hy215]; with_reducible exact H) | (have H2_ := (Option.bind_some _ _).symm.trans H; rw [hy215]; with_reducible exact H2_) | (have H2_ := (Option.bind_some _ _).symm.trans H; with_reducible exact H2_) | with_reducible exact H | (rw [hy215]; exact H) | exact H
    have Ny215 := am hy215
    clear hy215
    have H' := am H
    clear H
    have p212 : 0 ≤ (x7_1 : Int) := zD
    have q212 : x7_1 < (l0.length : Int) := zD
    obtain ⟨ad212, A212_0, c212_0, e212, hx212_0, hl212_0, hi212_0⟩ := at_L3 (Kd.V_reads' HO_0.out).2.2 x7_1 p212 q212
    cases e212
    obtain ⟨ce212, hce212, hMe212, hcc212⟩ := Kd.V_get HO_0.out [] x7_1 p212 (by first | exact q212 | exact zD | (have e_ := (Kd.V_reads' HO_0.out).1; omega))
    obtain ⟨ua212_0, uc212_0, rfl, ul212_0, ge212_0⟩ := Kd.FK_slice_open hMe212
    have hv212_0 := hcc212 0 _ rfl
    rw [Nat.add_zero, show ((Kd.slice 66 k66)).sz = 1 from rfl, Nat.mul_one] at hv212_0
    replace hv212_0 := oi (hv212_0.symm.trans hx212_0)
    injection hv212_0 with hva_ hvn_ hvc_
    rw [hva_] at ge212_0
    rw [hvc_] at ul212_0
    have HL212_0 := am (show Kd.V k66 66 _ w.heap.size _ _ (rd_L3 l0 x7_1) from Kd.V_mk ul212_0 ge212_0)
    clear hva_ hvn_ hvc_ ge212_0 ul212_0
    clear hcc212 hce212
    have HR212_0 := am hi212_0
    have HC212_0 := am hl212_0
    clear hi212_0 hl212_0
    replace p212 := eq_true p212
    replace q212 := eq_true q212
    go_wp2_with (first | ((with_reducible refine gate_callee (f := 115) rfl ?_); refine goesL_ (some 21) rfl rfl Tryz.func115 (by kernel_rfl) rfl #[.slice A1 l1.length c1, .slice A212_0 (rd_L3 l0 x7_1).length c212_0] rfl zL ?_; (with_reducible refine (spec_CompareShapes.calls k1 _ _ l1 _ _ (rd_L3 l0 x7_1) t213 _ ?side1 ?side2 ?side3 ?side4 A7.out).mono ?_); (case side1 => repeat (first | exact (Kd.V_reads' HO_1.out).2.2 | (with_reducible refine Kd.C_alloc ?_ _) | (with_reducible refine Kd.C_drewN ?_ _) | (with_reducible refine Kd.C_drew ?_))); (case side2 => exact (Kd.V_reads' HO_1.out).2.1); (case side3 => repeat (first | exact (by repeat (first | (with_reducible exact HR212_0.out) | (with_reducible refine Kd.C_alloc ?_ _) | (with_reducible refine Kd.C_drewN ?_ _) | (with_reducible refine Kd.C_drew ?_) | exact HR212_0.out)) | (with_reducible refine Kd.C_alloc ?_ _) | (with_reducible refine Kd.C_drewN ?_ _) | (with_reducible refine Kd.C_drew ?_))); (case side4 => exact HC212_0.out); rintro e w13 ⟨rfl, hb⟩; refine ⟨_, rfl, ?_⟩; have n0_ := am (Kd.V_below (by (with_reducible repeat (first | apply Kd.V_alloc | apply Kd.V_drewN | apply Kd.V_drew)); exact HO_0.out) hb); have n1_ := am (Kd.V_below (by (with_reducible repeat (first | apply Kd.V_alloc | apply Kd.V_drewN | apply Kd.V_drew)); exact HO_1.out) hb); have n2_ := am (Kd.N_below (by (with_reducible repeat (first | apply Kd.N_alloc | apply Kd.N_drewN | apply Kd.N_drew)); exact HO_5.out) hb); have n3_ := am (Kd.V_below (by (with_reducible repeat (first | apply Kd.V_alloc | apply Kd.V_drewN | apply Kd.V_drew)); exact HL212_0.out) hb); have n4_ := am (Kd.C_below (by repeat (first | (with_reducible exact HR212_0.out) | (with_reducible refine Kd.C_alloc ?_ _) | (with_reducible refine Kd.C_drewN ?_ _) | (with_reducible refine Kd.C_drew ?_) | exact HR212_0.out)) hb); have n5_ := am (Bb6 zB hb); clear HO_0; clear HO_1; clear HO_5; clear HL212_0; clear HR212_0; clear HB; have HO_0 := n0_; have HO_1 := n1_; have HO_5 := n2_; have HL212_0 := n3_; have HR212_0 := n4_; have HB := n5_; clear n0_ n1_ n2_ n3_ n4_ n5_; (try clear hb); (try clear hb2); (try clear hk); (try clear hi); have p214 : 0 ≤ (x7_1 : Int) := zD; have q214 : x7_1 < (l0.length : Int) := zD; obtain ⟨ad214, A214_0, c214_0, e214, hx214_0, hl214_0, hi214_0⟩ := at_L3 (Kd.V_reads' HO_0.out).2.2 x7_1 p214 q214; obtain rfl : ad212 = ad214 := (by injection e214); obtain ⟨ce214, hce214, hMe214, hcc214⟩ := Kd.V_get HO_0.out [] x7_1 p214 (by first | exact q214 | exact zD | (have e_ := (Kd.V_reads' HO_0.out).1; omega)); obtain ⟨ua214_0, uc214_0, rfl, ul214_0, ge214_0⟩ := Kd.FK_slice_open hMe214; have hv214_0 := hcc214 0 _ rfl; rw [Nat.add_zero, show ((Kd.slice 66 k66)).sz = 1 from rfl, Nat.mul_one] at hv214_0; replace hv214_0 := oi (hv214_0.symm.trans hx214_0); injection hv214_0 with hva_ hvn_ hvc_; rw [hva_] at ge214_0; rw [hvc_] at ul214_0; have HL214_0 := am (show Kd.V k66 66 _ w.heap.size _ _ (rd_L3 l0 x7_1) from Kd.V_mk ul214_0 ge214_0); clear hva_ hvn_ hvc_ ge214_0 ul214_0; clear hcc214 hce214; have HR214_0 := am hi214_0; have HC214_0 := am hl214_0; clear hi214_0 hl214_0; replace p214 := eq_true p214; replace q214 := eq_true q214) | ((with_reducible refine gate_builtin (b := .append) (xs := #[.tmp 35, .tmp 40]) rfl ?_); at_builtin; refine Kd.N_append (Kd.slice 66 k66) (w0 := w) w.heap.size rfl (.tmp 35) (.tmp 40) 63 29 (.slice none 0 0) 24 rfl Tryz.underlying63 info29 rfl (by decide) (by omega) u5 x5_1 (rd_L3 l0 x7_1) [.slice A214_0 (rd_L3 l0 x7_1).length c214_0] (fun k_ => ((P0_ k_ ∨ P1_ k_) ∨ w.heap.size ≤ k_)) (fun k_ => ((fun k_ => ((P0_ k_ ∨ P1_ k_) ∨ w.heap.size ≤ k_))) k_ ∧ some k_ ≠ (u5 : Value).ownBlock) rfl rfl ?aP (fun _ hk => hk) ?aF ?aO ?aB ?aS ?aL ?_; (case aP => exact (Kd.FK_slice_mk (Kd.V_reads' (Kd.V_mono (ok' := (fun k_ => ((fun k_ => ((P0_ k_ ∨ P1_ k_) ∨ w.heap.size ≤ k_))) k_ ∧ some k_ ≠ (u5 : Value).ownBlock)) (HL214_0.out) (fun k_ hk => ⟨hk.1, hk.2⟩))).2.1 (Kd.V_F (Kd.V_mono (ok' := (fun k_ => ((fun k_ => ((P0_ k_ ∨ P1_ k_) ∨ w.heap.size ≤ k_))) k_ ∧ some k_ ≠ (u5 : Value).ownBlock)) (HL214_0.out) (fun k_ hk => ⟨hk.1, hk.2⟩))))); (case aB => exact zB); (case aF => exact (fun k_ hk => (.inr (Nat.le_trans (Bb5 zB) hk)))); (case aO => exact (by (with_reducible repeat (first | apply Kd.N_alloc | apply Kd.N_drewN | apply Kd.N_drew)); exact HO_5.out)); (case aS => exact (Bb5 zB)); (case aL => first | (have := LMc12.out; omega) | (have h_ := Nat.le_of_lt LMc12.out; exact h_)); intro v216 w14 ho hb hg hat; rw [← Ny215.out] at ho; have n0_ := am (Kd.V_afterv (ok := (fun k_ => ((P0_ k_ ∨ P1_ k_) ∨ w.heap.size ≤ k_))) (by (with_reducible repeat (first | apply Kd.V_alloc | apply Kd.V_drewN | apply Kd.V_drew)); exact HO_0.out) hg hat); have n1_ := am (Kd.V_afterv (ok := (fun k_ => ((P0_ k_ ∨ P1_ k_) ∨ w.heap.size ≤ k_))) (by (with_reducible repeat (first | apply Kd.V_alloc | apply Kd.V_drewN | apply Kd.V_drew)); exact HO_1.out) hg hat); have n2_ := am (Kd.V_afterv (ok := (fun k_ => ((P0_ k_ ∨ P1_ k_) ∨ w.heap.size ≤ k_))) (by (with_reducible repeat (first | apply Kd.V_alloc | apply Kd.V_drewN | apply Kd.V_drew)); exact HL212_0.out) hg hat); have n3_ := am (Kd.V_afterv (ok := (fun k_ => ((P0_ k_ ∨ P1_ k_) ∨ w.heap.size ≤ k_))) (by (with_reducible repeat (first | apply Kd.V_alloc | apply Kd.V_drewN | apply Kd.V_drew)); exact HL214_0.out) hg hat); have n4_ := am (hb); have n5_ := am (ho); clear HO_0; clear HO_1; clear HL212_0; clear HL214_0; clear HB; clear HO_5; have HO_0 := n0_; have HO_1 := n1_; have HL212_0 := n2_; have HL214_0 := n3_; have HB := n4_; have HO217 := n5_; clear n0_ n1_ n2_ n3_ n4_ n5_; clear ho hb hg hat))
    go_roundg k1
    case measure => have := HK1.out; omega
    case rel => exact ⟨(y215), (true), (wrap64 (x7_1 + 1)), zS, zS, H', ⟨by have := HK1.out; omega⟩, ⟨by (with_reducible repeat (first | apply Kd.V_alloc | apply Kd.V_drewN | apply Kd.V_drew)); exact HO_0.out⟩, ⟨by (with_reducible repeat (first | apply Kd.V_alloc | apply Kd.V_drewN | apply Kd.V_drew)); exact HO_1.out⟩, ⟨by (with_reducible repeat (first | apply Kd.N_alloc | apply Kd.N_drewN | apply Kd.N_drew)); exact HO217.out⟩, ⟨zB⟩⟩
   replace c11 := ef c11
   subst c11
   have H1 : (if x5_1.length < 5864062014805 then ((some (x5_1 ++ [l1] : List (List (S66)))).bind fun y218 => (if y218.length < 5864062014805 then (spec_l03Add.l0 k1 l0 l1 (y218 ++ [rd_L3 l0 x7_1]) true (wrap64 (x7_1 + 1))) else (none))) else (none)) = some r := by first | (rw [if_neg (show ¬ (false = true) by decide)] at H; exact H) | rfl
   clear H
   have H := H1
   clear H1
   by_cases c15 : x5_1.length < 5864062014805
   rotate_left
   ·rw [if_neg c15] at H
    exact absurd H (by simp)
   rw [if_pos c15] at H
   have LMc15 := am c15
   clear c15
   obtain ⟨y218, hy218⟩ : ∃ y_ : List (List (S66)), y_ = (x5_1 ++ [l1]) := ⟨_, rfl⟩
   replace H : (if y218.length < 5864062014805 then (spec_l03Add.l0 k1 l0 l1 (y218 ++ [rd_L3 l0 x7_1]) true (wrap64 (x7_1 + 1))) else (none)) = some r := by first | (rw [hy218]; with_reducible exact H) | (have H2_ := (Option.bind_some _ _).symm.trans H; rw [hy218]; with_reducible exact H2_) | (have H2_ := (Option.bind_some _ _).symm.trans H; with_reducible exact H2_) | with_reducible exact H | (rw [hy218]; exact H) | exact H
   have Ny218 := am hy218
   clear hy218
   by_cases c16 : y218.length < 5864062014805
   rotate_left
   ·rw [if_neg c16] at H
    exact absurd H (by simp)
   rw [if_pos c16] at H
   have LMc16 := am c16
   clear c16
   obtain ⟨y222, hy222⟩ : ∃ y_ : List (List (S66)), y_ = (y218 ++ [rd_L3 l0 x7_1]) := ⟨_, rfl⟩
   replace H : (spec_l03Add.l0 k1 l0 l1 y222 true (wrap64 (x7_1 + 1))) = some r := by first | (rw [hy222]; with_reducible exact H) | (have H2_ := (Option.bind_some _ _).symm.trans H; rw [hy222]; with_reducible exact H2_) | (have H2_ := (Option.bind_some _ _).symm.trans H; with_reducible exact H2_) | with_reducible exact H | (rw [hy222]; exact H) | exact H
   have Ny222 := am hy222
   clear hy222
   have H' := am H
   clear H
   have p212 : 0 ≤ (x7_1 : Int) := zD
   have q212 : x7_1 < (l0.length : Int) := zD
   obtain ⟨ad212, A212_0, c212_0, e212, hx212_0, hl212_0, hi212_0⟩ := at_L3 (Kd.V_reads' HO_0.out).2.2 x7_1 p212 q212
   cases e212
   obtain ⟨ce212, hce212, hMe212, hcc212⟩ := Kd.V_get HO_0.out [] x7_1 p212 (by first | exact q212 | exact zD | (have e_ := (Kd.V_reads' HO_0.out).1; omega))
   obtain ⟨ua212_0, uc212_0, rfl, ul212_0, ge212_0⟩ := Kd.FK_slice_open hMe212
   have hv212_0 := hcc212 0 _ rfl
   rw [Nat.add_zero, show ((Kd.slice 66 k66)).sz = 1 from rfl, Nat.mul_one] at hv212_0
   replace hv212_0 := oi (hv212_0.symm.trans hx212_0)
   injection hv212_0 with hva_ hvn_ hvc_
   rw [hva_] at ge212_0
   rw [hvc_] at ul212_0
   have HL212_0 := am (show Kd.V k66 66 _ w.heap.size _ _ (rd_L3 l0 x7_1) from Kd.V_mk ul212_0 ge212_0)
   clear hva_ hvn_ hvc_ ge212_0 ul212_0
   clear hcc212 hce212
   have HR212_0 := am hi212_0
   have HC212_0 := am hl212_0
   clear hi212_0 hl212_0
   replace p212 := eq_true p212
   replace q212 := eq_true q212
   go_wp2_with (first | ((with_reducible refine gate_callee (f := 115) rfl ?_); refine goesL_ (some 21) rfl rfl Tryz.func115 (by kernel_rfl) rfl #[.slice A1 l1.length c1, .slice A212_0 (rd_L3 l0 x7_1).length c212_0] rfl zL ?_; (with_reducible refine (spec_CompareShapes.calls k1 _ _ l1 _ _ (rd_L3 l0 x7_1) t213 _ ?side1 ?side2 ?side3 ?side4 A7.out).mono ?_); (case side1 => repeat (first | exact (Kd.V_reads' HO_1.out).2.2 | (with_reducible refine Kd.C_alloc ?_ _) | (with_reducible refine Kd.C_drewN ?_ _) | (with_reducible refine Kd.C_drew ?_))); (case side2 => exact (Kd.V_reads' HO_1.out).2.1); (case side3 => repeat (first | exact (by repeat (first | (with_reducible exact HR212_0.out) | (with_reducible refine Kd.C_alloc ?_ _) | (with_reducible refine Kd.C_drewN ?_ _) | (with_reducible refine Kd.C_drew ?_) | exact HR212_0.out)) | (with_reducible refine Kd.C_alloc ?_ _) | (with_reducible refine Kd.C_drewN ?_ _) | (with_reducible refine Kd.C_drew ?_))); (case side4 => exact HC212_0.out); rintro e w17 ⟨rfl, hb⟩; refine ⟨_, rfl, ?_⟩; have n0_ := am (Kd.V_below (by (with_reducible repeat (first | apply Kd.V_alloc | apply Kd.V_drewN | apply Kd.V_drew)); exact HO_0.out) hb); have n1_ := am (Kd.V_below (by (with_reducible repeat (first | apply Kd.V_alloc | apply Kd.V_drewN | apply Kd.V_drew)); exact HO_1.out) hb); have n2_ := am (Kd.N_below (by (with_reducible repeat (first | apply Kd.N_alloc | apply Kd.N_drewN | apply Kd.N_drew)); exact HO_5.out) hb); have n3_ := am (Kd.V_below (by (with_reducible repeat (first | apply Kd.V_alloc | apply Kd.V_drewN | apply Kd.V_drew)); exact HL212_0.out) hb); have n4_ := am (Kd.C_below (by repeat (first | (with_reducible exact HR212_0.out) | (with_reducible refine Kd.C_alloc ?_ _) | (with_reducible refine Kd.C_drewN ?_ _) | (with_reducible refine Kd.C_drew ?_) | exact HR212_0.out)) hb); have n5_ := am (Bb6 zB hb); clear HO_0; clear HO_1; clear HO_5; clear HL212_0; clear HR212_0; clear HB; have HO_0 := n0_; have HO_1 := n1_; have HO_5 := n2_; have HL212_0 := n3_; have HR212_0 := n4_; have HB := n5_; clear n0_ n1_ n2_ n3_ n4_ n5_; (try clear hb); (try clear hb2); (try clear hk); (try clear hi)) | ((with_reducible refine gate_builtin (b := .append) (xs := #[.tmp 31, .tmp 33]) rfl ?_); at_builtin; refine Kd.N_append (Kd.slice 66 k66) (w0 := w) w.heap.size rfl (.tmp 31) (.tmp 33) 63 29 (.slice none 0 0) 24 rfl Tryz.underlying63 info29 rfl (by decide) (by omega) u5 x5_1 l1 [.slice A1 l1.length c1] (fun k_ => ((P0_ k_ ∨ P1_ k_) ∨ w.heap.size ≤ k_)) (fun k_ => ((fun k_ => ((P0_ k_ ∨ P1_ k_) ∨ w.heap.size ≤ k_))) k_ ∧ some k_ ≠ (u5 : Value).ownBlock) rfl rfl ?aP (fun _ hk => hk) ?aF ?aO ?aB ?aS ?aL ?_; (case aP => exact (Kd.FK_slice_mk (Kd.V_reads' (Kd.V_mono (ok' := (fun k_ => ((fun k_ => ((P0_ k_ ∨ P1_ k_) ∨ w.heap.size ≤ k_))) k_ ∧ some k_ ≠ (u5 : Value).ownBlock)) (HO_1.out) (fun k_ hk => ⟨hk.1, hk.2⟩))).2.1 (Kd.V_F (Kd.V_mono (ok' := (fun k_ => ((fun k_ => ((P0_ k_ ∨ P1_ k_) ∨ w.heap.size ≤ k_))) k_ ∧ some k_ ≠ (u5 : Value).ownBlock)) (HO_1.out) (fun k_ hk => ⟨hk.1, hk.2⟩))))); (case aB => exact zB); (case aF => exact (fun k_ hk => (.inr (Nat.le_trans (Bb5 zB) hk)))); (case aO => exact (by (with_reducible repeat (first | apply Kd.N_alloc | apply Kd.N_drewN | apply Kd.N_drew)); exact HO_5.out)); (case aS => exact (Bb5 zB)); (case aL => first | (have := LMc15.out; omega) | (have h_ := Nat.le_of_lt LMc15.out; exact h_)); intro v219 w18 ho hb hg hat; rw [← Ny218.out] at ho; have n0_ := am (Kd.V_afterv (ok := (fun k_ => ((P0_ k_ ∨ P1_ k_) ∨ w.heap.size ≤ k_))) (by (with_reducible repeat (first | apply Kd.V_alloc | apply Kd.V_drewN | apply Kd.V_drew)); exact HO_0.out) hg hat); have n1_ := am (Kd.V_afterv (ok := (fun k_ => ((P0_ k_ ∨ P1_ k_) ∨ w.heap.size ≤ k_))) (by (with_reducible repeat (first | apply Kd.V_alloc | apply Kd.V_drewN | apply Kd.V_drew)); exact HO_1.out) hg hat); have n2_ := am (Kd.V_afterv (ok := (fun k_ => ((P0_ k_ ∨ P1_ k_) ∨ w.heap.size ≤ k_))) (by (with_reducible repeat (first | apply Kd.V_alloc | apply Kd.V_drewN | apply Kd.V_drew)); exact HL212_0.out) hg hat); have n3_ := am (hb); have n4_ := am (ho); clear HO_0; clear HO_1; clear HL212_0; clear HB; clear HO_5; have HO_0 := n0_; have HO_1 := n1_; have HL212_0 := n2_; have HB := n3_; have HO220 := n4_; clear n0_ n1_ n2_ n3_ n4_; clear ho hb hg hat; have p221 : 0 ≤ (x7_1 : Int) := zD; have q221 : x7_1 < (l0.length : Int) := zD; obtain ⟨ad221, A221_0, c221_0, e221, hx221_0, hl221_0, hi221_0⟩ := at_L3 (Kd.V_reads' HO_0.out).2.2 x7_1 p221 q221; obtain rfl : ad212 = ad221 := (by injection e221); obtain ⟨ce221, hce221, hMe221, hcc221⟩ := Kd.V_get HO_0.out [] x7_1 p221 (by first | exact q221 | exact zD | (have e_ := (Kd.V_reads' HO_0.out).1; omega)); obtain ⟨ua221_0, uc221_0, rfl, ul221_0, ge221_0⟩ := Kd.FK_slice_open hMe221; have hv221_0 := hcc221 0 _ rfl; rw [Nat.add_zero, show ((Kd.slice 66 k66)).sz = 1 from rfl, Nat.mul_one] at hv221_0; replace hv221_0 := oi (hv221_0.symm.trans hx221_0); injection hv221_0 with hva_ hvn_ hvc_; rw [hva_] at ge221_0; rw [hvc_] at ul221_0; have HL221_0 := am (show Kd.V k66 66 _ w.heap.size _ _ (rd_L3 l0 x7_1) from Kd.V_mk ul221_0 ge221_0); clear hva_ hvn_ hvc_ ge221_0 ul221_0; clear hcc221 hce221; have HR221_0 := am hi221_0; have HC221_0 := am hl221_0; clear hi221_0 hl221_0; replace p221 := eq_true p221; replace q221 := eq_true q221) | ((with_reducible refine gate_builtin (b := .append) (xs := #[.tmp 35, .tmp 40]) rfl ?_); at_builtin; refine Kd.N_append (Kd.slice 66 k66) (w0 := w) w.heap.size rfl (.tmp 35) (.tmp 40) 63 29 (.slice none 0 0) 24 rfl Tryz.underlying63 info29 rfl (by decide) (by omega) v219 y218 (rd_L3 l0 x7_1) [.slice A221_0 (rd_L3 l0 x7_1).length c221_0] (fun k_ => ((P0_ k_ ∨ P1_ k_) ∨ w.heap.size ≤ k_)) (fun k_ => ((fun k_ => ((P0_ k_ ∨ P1_ k_) ∨ w.heap.size ≤ k_))) k_ ∧ some k_ ≠ (v219 : Value).ownBlock) rfl rfl ?aP (fun _ hk => hk) ?aF ?aO ?aB ?aS ?aL ?_; (case aP => exact (Kd.FK_slice_mk (Kd.V_reads' (Kd.V_mono (ok' := (fun k_ => ((fun k_ => ((P0_ k_ ∨ P1_ k_) ∨ w.heap.size ≤ k_))) k_ ∧ some k_ ≠ (v219 : Value).ownBlock)) (HL221_0.out) (fun k_ hk => ⟨hk.1, hk.2⟩))).2.1 (Kd.V_F (Kd.V_mono (ok' := (fun k_ => ((fun k_ => ((P0_ k_ ∨ P1_ k_) ∨ w.heap.size ≤ k_))) k_ ∧ some k_ ≠ (v219 : Value).ownBlock)) (HL221_0.out) (fun k_ hk => ⟨hk.1, hk.2⟩))))); (case aB => exact zB); (case aF => exact (fun k_ hk => (.inr (Nat.le_trans (Bb5 zB) hk)))); (case aO => exact (by (with_reducible repeat (first | apply Kd.N_alloc | apply Kd.N_drewN | apply Kd.N_drew)); exact HO220.out)); (case aS => exact (Bb5 zB)); (case aL => first | (have := LMc16.out; omega) | (have h_ := Nat.le_of_lt LMc16.out; exact h_)); intro v223 w19 ho hb hg hat; rw [← Ny222.out] at ho; have n0_ := am (Kd.V_afterv (ok := (fun k_ => ((P0_ k_ ∨ P1_ k_) ∨ w.heap.size ≤ k_))) (by (with_reducible repeat (first | apply Kd.V_alloc | apply Kd.V_drewN | apply Kd.V_drew)); exact HO_0.out) hg hat); have n1_ := am (Kd.V_afterv (ok := (fun k_ => ((P0_ k_ ∨ P1_ k_) ∨ w.heap.size ≤ k_))) (by (with_reducible repeat (first | apply Kd.V_alloc | apply Kd.V_drewN | apply Kd.V_drew)); exact HO_1.out) hg hat); have n2_ := am (Kd.V_afterv (ok := (fun k_ => ((P0_ k_ ∨ P1_ k_) ∨ w.heap.size ≤ k_))) (by (with_reducible repeat (first | apply Kd.V_alloc | apply Kd.V_drewN | apply Kd.V_drew)); exact HL212_0.out) hg hat); have n3_ := am (Kd.V_afterv (ok := (fun k_ => ((P0_ k_ ∨ P1_ k_) ∨ w.heap.size ≤ k_))) (by (with_reducible repeat (first | apply Kd.V_alloc | apply Kd.V_drewN | apply Kd.V_drew)); exact HL221_0.out) hg hat); have n4_ := am (hb); have n5_ := am (ho); clear HO_0; clear HO_1; clear HL212_0; clear HL221_0; clear HB; clear HO220; have HO_0 := n0_; have HO_1 := n1_; have HL212_0 := n2_; have HL221_0 := n3_; have HB := n4_; have HO224 := n5_; clear n0_ n1_ n2_ n3_ n4_ n5_; clear ho hb hg hat))
   go_roundg k1
   case measure => have := HK1.out; omega
   case rel => exact ⟨(y222), (true), (wrap64 (x7_1 + 1)), zS, zS, H', ⟨by have := HK1.out; omega⟩, ⟨by (with_reducible repeat (first | apply Kd.V_alloc | apply Kd.V_drewN | apply Kd.V_drew)); exact HO_0.out⟩, ⟨by (with_reducible repeat (first | apply Kd.V_alloc | apply Kd.V_drewN | apply Kd.V_drew)); exact HO_1.out⟩, ⟨by (with_reducible repeat (first | apply Kd.N_alloc | apply Kd.N_drewN | apply Kd.N_drew)); exact HO224.out⟩, ⟨zB⟩⟩

/-! ### spec_l03Turn: function 116 -/
mutual
def spec_l03Turn.j0 : Nat → Int → Int → Int → Option (Int × Int)
 | 0, _, _, _ => none
 | k + 1, x1, x230000, x230001 => spec_l03Turn.l0 k (Int.tmod x1 4) x230000 x230001
def spec_l03Turn.l0 : Nat → Int → Int → Int → Option (Int × Int)
 | 0, _, _, _ => none
 | k + 1, x5, x230000, x230001 => if x5 > 0 then (spec_l03Turn.l0 k (wrap64 (x5 - 1)) (wrap64 (-x230001)) x230000) else (some (x230000, x230001))
end
def spec_l03Turn.f (k : Nat) (a0_0 : Int) (a0_1 : Int) (a1 : Int) : Option (Int × Int) := if a1 ≥ 4 then (spec_l03Turn.j0 k a1 (wrap64 (-a0_0)) a0_1) else (spec_l03Turn.j0 k a1 a0_0 a0_1)
theorem spec_l03Turn.mono_l : ∀ k, (∀ y0 y1 y2, LeO (spec_l03Turn.j0 k y0 y1 y2) (spec_l03Turn.j0 (k + 1) y0 y1 y2)) ∧ (∀ y0 y1 y2, LeO (spec_l03Turn.l0 k y0 y1 y2) (spec_l03Turn.l0 (k + 1) y0 y1 y2))
 | 0 => ⟨fun _ _ _ r h => by simp [spec_l03Turn.j0] at h, fun _ _ _ r h => by simp [spec_l03Turn.l0] at h⟩
 | k + 1 => by
  obtain ⟨ih0, ih1⟩ := spec_l03Turn.mono_l k
  refine ⟨?_, ?_⟩
  ·intro y0 y1 y2
   unfold spec_l03Turn.j0
   with_reducible repeat' first | exact ih0 _ _ _ | exact ih1 _ _ _ | exact LeO.refl _ | exact LeO.none _ | refine LeO.ite ?_ ?_ | refine LeO.bind ?_ (fun _ => ?_)
  ·intro y0 y1 y2
   unfold spec_l03Turn.l0
   with_reducible repeat' first | exact ih0 _ _ _ | exact ih1 _ _ _ | exact LeO.refl _ | exact LeO.none _ | refine LeO.ite ?_ ?_ | refine LeO.bind ?_ (fun _ => ?_)
theorem spec_l03Turn.mono : ∀ a0 a1 a2 k, LeO (spec_l03Turn.f k a0 a1 a2) (spec_l03Turn.f (k + 1) a0 a1 a2) := by
 intro a0 a1 a2 k
 obtain ⟨ih0, ih1⟩ := spec_l03Turn.mono_l k
 unfold spec_l03Turn.f
 with_reducible repeat' first | exact ih0 _ _ _ | exact ih1 _ _ _ | exact LeO.refl _ | exact LeO.none _ | refine LeO.ite ?_ ?_ | refine LeO.bind ?_ (fun _ => ?_)
set_option maxHeartbeats 8000000 in
set_option maxRecDepth 100000 in
theorem spec_l03Turn.calls (k : Nat) (a0_0 : Int) (a0_1 : Int) (a1 : Int) (r1 : Int) (r2 : Int) (w : World) (h : spec_l03Turn.f k a0_0 a0_1 a1 = some (r1, r2)) :
  Calls Tryz.prog 116 #[.agg #[.int .i64 a0_0, .int .i64 a0_1], .int .i64 a1] w fun e w' => e = .returned (.agg #[.int .i64 r1, .int .i64 r2]) ∧ Below w.heap.size w w' := by
 have hu66 := Tryz.underlying66
 have HB := am (Below.refl w.heap.size w)
 have H : (if a1 ≥ 4 then (spec_l03Turn.j0 k a1 (wrap64 (-a0_0)) a0_1) else (spec_l03Turn.j0 k a1 a0_0 a0_1)) = some (r1, r2) := h
 clear h
 have HC3 := am H
 clear H
 go_enter Tryz.func116, Tryz.ntmps116
 go_upto_if 7 with (first | ((with_reducible refine gate_dst (N := 2) rfl ?_); refine box_event ?hg (N := 2) ?hd (cs := #[.int .i64 a0_0, .int .i64 a0_1]) (t := 66) ?hr ?_; (case hd => rfl); (case hg => rfl); (case hr => first | (go_simp; done) | (go_simp; rfl)); intro gb229 hg w4 hbox hb; have n0_ := am (Bb6 zB hb); have n1_ := am (hbox); have n2_ := am ((by rw [hg]; exact (Bb5 zB) : w.heap.size ≤ gb229)); have n3_ := n2_; clear HB; have HB := n0_; have BK229 := n1_; have GW229 := n2_; have GE229 := n3_; clear n0_ n1_ n2_ n3_; clear hb hbox hg) | ((with_reducible refine gate_dst (N := 4) rfl ?_); refine box_event ?hg (N := 4) ?hd (cs := #[.int .i64 0, .int .i64 0]) (t := 66) ?hr ?_; (case hd => rfl); (case hg => rfl); (case hr => first | (go_simp; done) | (go_simp; rfl)); intro gb230 hg w5 hbox hb; have n0_ := am (Bk4 (g := gb229) (o := .cells #[.int .i64 a0_0, .int .i64 a0_1] 66 (0, 0)) (zK BK229) hb); have n1_ := am (Bb6 (by repeat (first | (with_reducible first | exact HB.out | apply Bb1 | apply Bb2 | apply Bb3 | refine Bb4 ?_ GE229.out) | exact HB.out)) hb); have n2_ := am (hbox); have n3_ := am ((by rw [hg]; exact (Bb5 (by repeat (first | (with_reducible first | exact HB.out | apply Bb1 | apply Bb2 | apply Bb3 | refine Bb4 ?_ GE229.out) | exact HB.out))) : w.heap.size ≤ gb230)); have n4_ := n3_; have n5_ := am ((by rw [hg]; exact nl (Bk5 (g := gb229) (o := .cells #[.int .i64 a0_0, .int .i64 a0_1] 66 (0, 0)) (zK BK229)) : gb229 ≠ gb230)); have n6_ := am ((by rw [hg]; exact ng (Bk5 (g := gb229) (o := .cells #[.int .i64 a0_0, .int .i64 a0_1] 66 (0, 0)) (zK BK229)) : gb230 ≠ gb229)); clear BK229; clear HB; have BK229 := n0_; have HB := n1_; have BK230 := n2_; have GW230 := n3_; have GE230 := n4_; have NB229_230 := n5_; have NB230_229 := n6_; clear n0_ n1_ n2_ n3_ n4_ n5_ n6_; clear hb hbox hg))
 (try simp only [Act.put, sa])
 go_cut [] (fun wc => ∃ (kq : Nat) (x230000_2 : Int) (x230001_2 : Int), Aside0 (spec_l03Turn.j0 kq a1 x230000_2 x230001_2 = some (r1, r2)) ∧ Aside0 (kq ≤ k) ∧ Aside0 (wc.heap[gb229]? = some (.cells #[.int .i64 x230000_2, .int .i64 x230001_2] 66 (0, 0))) ∧ Aside0 (wc.heap[gb230]? = some (.cells #[.int .i64 0, .int .i64 0] 66 (0, 0))) ∧ Aside0 (Below w.heap.size w wc))
 case first =>
  have H := HC3.out
  clear HC3
  by_cases c6 : a1 ≥ 4
  rotate_left
  ·rw [if_neg c6] at H
   have c6b0 : decide (4 ≤ a1) = false := decide_eq_false c6
   clear c6
   (first | rw [c6b0] | (simp only [i64_w, i32_w]; rw [c6b0]) | skip)
   have H' := am H
   clear H
   go_wp2
   go_meet
   case rel => exact ⟨_, (a0_0), (a0_1), H', ⟨by first | omega | exact Nat.le_refl _⟩, ⟨zK BK229⟩, ⟨zK BK230⟩, ⟨by repeat (first | (with_reducible first | exact HB.out | apply Bb1 | apply Bb2 | apply Bb3 | refine Bb4 ?_ GE229.out | refine Bb4 ?_ GE230.out) | exact HB.out)⟩⟩
  rw [if_pos c6] at H
  have c6b0 : decide (4 ≤ a1) = true := decide_eq_true c6
  clear c6
  (first | rw [c6b0] | (simp only [i64_w, i32_w]; rw [c6b0]) | skip)
  have H' := am H
  clear H
  have hnb7 := NB229_230.out
  have hnc7 := NB230_229.out
  have hcz8_0 : w5.cell? ⟨gb229, 0, none⟩ = some (.int .i64 a0_0) := (kc BK229.out 0).trans rfl
  have hcz8_1 : w5.cell? ⟨gb229, 1, none⟩ = some (.int .i64 a0_1) := (kc BK229.out 1).trans rfl
  have hfz8_0 := kf BK229.out 0
  have hfz8_1 := kf BK229.out 1
  go_wp2
  go_meet
  case rel => exact ⟨_, (wrap64 (-a0_0)), (a0_1), H', ⟨by first | omega | exact Nat.le_refl _⟩, ⟨by (with_reducible repeat (first | refine Bk2 ?_ _ | refine Bk3 ?_ | refine Bk1 ?_ _)); refine blk_put (cs := #[.int .i64 (wrap64 (-a0_0)), .int .i64 a0_1]) ?_ 1 _ rfl; (with_reducible repeat (first | refine Bk2 ?_ _ | refine Bk3 ?_ | refine Bk1 ?_ _)); refine blk_put (cs := #[.int .i64 a0_0, .int .i64 a0_1]) ?_ 0 _ rfl; (with_reducible repeat (first | refine Bk2 ?_ _ | refine Bk3 ?_ | refine Bk1 ?_ _)); exact BK229.out⟩, ⟨by (with_reducible repeat (first | refine Bk2 ?_ _ | refine Bk3 ?_ | refine Bk1 ?_ _)); refine blk_far ?_ NB230_229.out _; (with_reducible repeat (first | refine Bk2 ?_ _ | refine Bk3 ?_ | refine Bk1 ?_ _)); refine blk_far ?_ NB230_229.out _; (with_reducible repeat (first | refine Bk2 ?_ _ | refine Bk3 ?_ | refine Bk1 ?_ _)); exact BK230.out⟩, ⟨by repeat (first | (with_reducible first | exact HB.out | apply Bb1 | apply Bb2 | apply Bb3 | refine Bb4 ?_ GE229.out | refine Bb4 ?_ GE230.out) | exact HB.out)⟩⟩
 clear HC3
 try clear c1
 try clear p2
 try clear c6
 try clear c6b0
 try clear p6
 try clear c7
 try clear hcz8_0
 try clear hcz8_1
 try clear hfz8_0
 try clear hfz8_1
 obtain ⟨kq, x230000_2, x230001_2, HA, HJ2, BK229, BK230, HB⟩ := hcut
 cases kq with
 | zero => exact absurd HA.out (by simp [spec_l03Turn.j0])
 | succ kj2 =>
  have H := HA.out
  clear HA
  simp only [spec_l03Turn.j0] at H
  have H' := am H
  clear H
  go_wp2
  go_loopg [5] kj2 (fun kq v5 w' => ∃ (x5_2 : Int) (x230000_2 : Int) (x230001_2 : Int), v5 = .int .i64 x5_2 ∧ Aside0 (spec_l03Turn.l0 kq x5_2 x230000_2 x230001_2 = some (r1, r2)) ∧ Aside0 (kq ≤ kj2) ∧ Aside0 (w'.heap[gb229]? = some (.cells #[.int .i64 x230000_2, .int .i64 x230001_2] 66 (0, 0))) ∧ Aside0 (w'.heap[gb230]? = some (.cells #[.int .i64 0, .int .i64 0] 66 (0, 0))) ∧ Aside0 (Below w.heap.size w w'))
  case atStart => exact ⟨(Int.tmod a1 4), (x230000_2), (x230001_2), zS, H', ⟨Nat.le_refl _⟩, ⟨zK BK229⟩, ⟨zK BK230⟩, ⟨by repeat (first | (with_reducible first | exact HB.out | apply Bb1 | apply Bb2 | apply Bb3 | refine Bb4 ?_ GE229.out | refine Bb4 ?_ GE230.out) | exact HB.out)⟩⟩
  case round =>
   clear H'
   try clear c1
   try clear p2
   try clear c6
   try clear c6b0
   try clear p6
   try clear c7
   try clear hcz8_0
   try clear hcz8_1
   try clear hfz8_0
   try clear hfz8_1
   try clear p2
   try clear p6
   obtain ⟨x5_2, x230000_2, x230001_2, rfl, HA, HK2, BK229, BK230, HB⟩ := hrel
   cases gk with
   | zero => exact absurd HA.out (by simp [spec_l03Turn.l0])
   | succ k2 =>
    have H := HA.out
    clear HA
    simp only [spec_l03Turn.l0] at H
    by_cases c9 : x5_2 > 0
    rotate_left
    ·rw [if_neg c9] at H
     have c9b0 : decide (0 < x5_2) = false := decide_eq_false c9
     clear c9
     simp only [Option.some.injEq, Prod.mk.injEq] at H
     obtain ⟨rfl, rfl⟩ := H
     have hnb12 := NB229_230.out
     have hnc12 := NB230_229.out
     have hcz13_0 : wr.cell? ⟨gb229, 0, none⟩ = some (.int .i64 x230000_2) := (kc BK229.out 0).trans rfl
     have hcz13_1 : wr.cell? ⟨gb229, 1, none⟩ = some (.int .i64 x230001_2) := (kc BK229.out 1).trans rfl
     have hfz13_0 := kf BK229.out 0
     have hfz13_1 := kf BK229.out 1
     have hcz14_0 : wr.cell? ⟨gb230, 0, none⟩ = some (.int .i64 0) := (kc BK230.out 0).trans rfl
     have hcz14_1 : wr.cell? ⟨gb230, 1, none⟩ = some (.int .i64 0) := (kc BK230.out 1).trans rfl
     have hfz14_0 := kf BK230.out 0
     have hfz14_1 := kf BK230.out 1
     go_wp2
     refine bodyPost_ret (results_cell_row rfl _ _ gb230 66 #[.int .i64 x230000_2, .int .i64 x230001_2] (0, 0) _ rfl (by (with_reducible repeat (first | refine Bk2 ?_ _ | refine Bk3 ?_ | refine Bk1 ?_ _)); refine blk_put (cs := #[.int .i64 x230000_2, .int .i64 0]) ?_ 1 _ rfl; (with_reducible repeat (first | refine Bk2 ?_ _ | refine Bk3 ?_ | refine Bk1 ?_ _)); refine blk_put (cs := #[.int .i64 0, .int .i64 0]) ?_ 0 _ rfl; (with_reducible repeat (first | refine Bk2 ?_ _ | refine Bk3 ?_ | refine Bk1 ?_ _)); exact BK230.out) Tryz.underlying66 rfl (by kernel_rfl)) rfl ?_
     exact ⟨zE, by repeat (first | (with_reducible first | exact HB.out | apply Bb1 | apply Bb2 | apply Bb3 | refine Bb4 ?_ GE229.out | refine Bb4 ?_ GE230.out) | exact HB.out)⟩
    rw [if_pos c9] at H
    have c9b0 : decide (0 < x5_2) = true := decide_eq_true c9
    clear c9
    have H' := am H
    clear H
    have hnb10 := NB229_230.out
    have hnc10 := NB230_229.out
    have hcz11_0 : wr.cell? ⟨gb229, 0, none⟩ = some (.int .i64 x230000_2) := (kc BK229.out 0).trans rfl
    have hcz11_1 : wr.cell? ⟨gb229, 1, none⟩ = some (.int .i64 x230001_2) := (kc BK229.out 1).trans rfl
    have hfz11_0 := kf BK229.out 0
    have hfz11_1 := kf BK229.out 1
    go_wp2
    go_roundg k2
    case measure => have := HJ2.out; have := HK2.out; omega
    case rel => exact ⟨(wrap64 (x5_2 - 1)), (wrap64 (-x230001_2)), (x230000_2), zS, H', ⟨by have := HJ2.out; have := HK2.out; omega⟩, ⟨by (with_reducible repeat (first | refine Bk2 ?_ _ | refine Bk3 ?_ | refine Bk1 ?_ _)); refine blk_put (cs := #[.int .i64 (wrap64 (-x230001_2)), .int .i64 x230001_2]) ?_ 1 _ rfl; (with_reducible repeat (first | refine Bk2 ?_ _ | refine Bk3 ?_ | refine Bk1 ?_ _)); refine blk_put (cs := #[.int .i64 x230000_2, .int .i64 x230001_2]) ?_ 0 _ rfl; (with_reducible repeat (first | refine Bk2 ?_ _ | refine Bk3 ?_ | refine Bk1 ?_ _)); exact BK229.out⟩, ⟨by (with_reducible repeat (first | refine Bk2 ?_ _ | refine Bk3 ?_ | refine Bk1 ?_ _)); refine blk_far ?_ NB230_229.out _; (with_reducible repeat (first | refine Bk2 ?_ _ | refine Bk3 ?_ | refine Bk1 ?_ _)); refine blk_far ?_ NB230_229.out _; (with_reducible repeat (first | refine Bk2 ?_ _ | refine Bk3 ?_ | refine Bk1 ?_ _)); exact BK230.out⟩, ⟨by repeat (first | (with_reducible first | exact HB.out | apply Bb1 | apply Bb2 | apply Bb3 | refine Bb4 ?_ GE229.out | refine Bb4 ?_ GE230.out) | exact HB.out)⟩⟩

end Go.Proofs.YtbphiipcnjelbaaGreat.Q
