/- Written by a program of this session (wip/tools/pp.py) out of the translation, with the kit's printer. -/
import Derived.Test.YtbbhohaenijaoaaGreatQ0
import Derived.Test.YtbbhohaenijaoaaGreatQ2
namespace Go.Proofs.YtbbhohaenijaoaaGreat.Q
open Go.RowKit Go.Proofs.YtbbhohaenijaoaaGreatW.PrintWords Go.Proofs.YtbbhohaenijaoaaGreatW.PrintLast Go.Proofs.YtbbhohaenijaoaaGreatW.PrintMore
attribute [local go_sem] max2_int min2_int max_two min_two max_three min_three max_four min_four
set_option linter.unusedVariables false
set_option linter.unusedSimpArgs false

/-! ### spec_CompareShapes: function 29 -/
abbrev spec_CompareShapes.m0 : Array Bool := #[z',z',z',z',z',z',z',z',z']
abbrev spec_CompareShapes.m1 : Array Bool := #[o',z',z',z',z',z',z',z',z']
abbrev spec_CompareShapes.m2 : Array Bool := #[o',o',z',z',z',z',z',z',z']
abbrev spec_CompareShapes.m3 : Array Bool := #[o',o',o',z',z',z',z',z',z']
abbrev spec_CompareShapes.m4 : Array Bool := #[o',o',o',z',o',z',z',z',z']
abbrev spec_CompareShapes.m5 : Array Bool := #[o',o',o',z',o',o',z',z',z']
abbrev spec_CompareShapes.m6 : Array Bool := #[o',o',o',z',o',o',o',z',z']
abbrev spec_CompareShapes.m7 : Array Bool := #[o',o',o',o',o',o',o',z',z']
abbrev spec_CompareShapes.m8 : Array Bool := #[o',o',o',o',o',o',o',o',z']
abbrev spec_CompareShapes.m9 : Array Bool := #[o',o',o',o',o',o',o',o',o']
def spec_CompareShapes.l0 : Nat → List (S44) → List (S44) → Int → Option (Int)
 | 0, _, _, _ => none
 | k + 1, x0, x1, x5 => if x5 < (x0.length : Int) then (if 0 ≤ x5 then (if x5 < (x1.length : Int) then ((spec_l02Less.f ((rd_T44 x0 x5).f0) ((rd_T44 x0 x5).f1) ((rd_T44 x1 x5).f0) ((rd_T44 x1 x5).f1)).bind fun t208 => (if t208 = true then (some (-1)) else ((spec_l02Less.f ((rd_T44 x1 x5).f0) ((rd_T44 x1 x5).f1) ((rd_T44 x0 x5).f0) ((rd_T44 x0 x5).f1)).bind fun t211 => (if t211 = true then (some 1) else (spec_CompareShapes.l0 k x0 x1 (wrap64 (x5 + 1))))))) else (none)) else (none)) else (some 0)
def spec_CompareShapes.f (k : Nat) (l0 : List (S44)) (l1 : List (S44)) : Option (Int) := if (l0.length : Int) = (l1.length : Int) then (spec_CompareShapes.l0 k l0 l1 0) else (if (l0.length : Int) < (l1.length : Int) then (some (-1)) else (some 1))
theorem spec_CompareShapes.mono_l : ∀ k, (∀ y0 y1 y2, LeO (spec_CompareShapes.l0 k y0 y1 y2) (spec_CompareShapes.l0 (k + 1) y0 y1 y2))
 | 0 => fun _ _ _ r h => by simp [spec_CompareShapes.l0] at h
 | k + 1 => by
  have ih0 := spec_CompareShapes.mono_l k
  ·intro y0 y1 y2
   unfold spec_CompareShapes.l0
   with_reducible repeat' first | exact ih0 _ _ _ | exact LeO.refl _ | exact LeO.none _ | refine LeO.ite ?_ ?_ | refine LeO.bind ?_ (fun _ => ?_)
theorem spec_CompareShapes.mono : ∀ a0 a1 k, LeO (spec_CompareShapes.f k a0 a1) (spec_CompareShapes.f (k + 1) a0 a1) := by
 intro a0 a1 k
 have ih0 := spec_CompareShapes.mono_l k
 unfold spec_CompareShapes.f
 with_reducible repeat' first | exact ih0 _ _ _ | exact LeO.refl _ | exact LeO.none _ | refine LeO.ite ?_ ?_ | refine LeO.bind ?_ (fun _ => ?_)
def spec_CompareShapes.T8 : Bool × List (List Nat × List Nat) := (true, [([], []), ([], []), ([0, 1], [0, 1]), ([2], [2]), ([], []), ([], []), ([4, 5], [4, 5]), ([6], [6]), ([3, 7], [3, 7])])
def spec_CompareShapes.B8 : List Nat := [0, 0, 3, 7, 0, 0, 48, 112, 255]
theorem spec_CompareShapes.tab8 : rtab .any (opsOf Tryz.f29 8) = spec_CompareShapes.T8 := by kernel_rfl
theorem spec_CompareShapes.bits8 : waitsOk spec_CompareShapes.T8.2 spec_CompareShapes.B8 = true := by kernel_rfl
def spec_CompareShapes.T10 : Bool × List (List Nat × List Nat) := (true, [([], []), ([], []), ([0, 1], [0, 1]), ([2], [2]), ([], []), ([], []), ([4, 5], [4, 5]), ([6], [6]), ([3, 7], [3, 7])])
def spec_CompareShapes.B10 : List Nat := [0, 0, 3, 7, 0, 0, 48, 112, 255]
theorem spec_CompareShapes.tab10 : rtab .any (opsOf Tryz.f29 10) = spec_CompareShapes.T10 := by kernel_rfl
theorem spec_CompareShapes.bits10 : waitsOk spec_CompareShapes.T10.2 spec_CompareShapes.B10 = true := by kernel_rfl
set_option maxHeartbeats 8000000 in
set_option maxRecDepth 100000 in
theorem spec_CompareShapes.calls (k : Nat) (A0 : Option Addr) (c0 : Nat) (l0 : List (S44)) (A1 : Option Addr) (c1 : Nat) (l1 : List (S44)) (r : Int) (w : World) (hr0 : Kd.C k44 w A0 l0.length l0) (hc0 : l0.length ≤ c0) (hr1 : Kd.C k44 w A1 l1.length l1) (hc1 : l1.length ≤ c1) (h : spec_CompareShapes.f k l0 l1 = some r) :
  Calls Tryz.prog 29 #[.slice A0 l0.length c0, .slice A1 l1.length c1] w fun e w' => e = .returned (.int .i64 r) ∧ Below w.heap.size w w' := by
 have hu44 := Tryz.underlying44
 have HR0 := am hr0
 have HC0 := am hc0
 clear hr0 hc0
 have HR1 := am hr1
 have HC1 := am hc1
 clear hr1 hc1
 have HB := am (Below.refl w.heap.size w)
 have H : (if (l0.length : Int) = (l1.length : Int) then (spec_CompareShapes.l0 k l0 l1 0) else (if (l0.length : Int) < (l1.length : Int) then (some (-1)) else (some 1))) = some r := h
 clear h
 by_cases c3 : (l0.length : Int) = (l1.length : Int)
 rotate_left
 ·rw [if_neg c3] at H
  have c3b0 : ((l0.length : Int) == (l1.length : Int)) = false := beq_eq_false_iff_ne.mpr c3
  have c3b1 : ((l0.length : Int) != (l1.length : Int)) = true := bne_iff_ne.mpr c3
  have c3b2 : (l0.length == l1.length) = false := by first | simpa using c3 | (simp at c3 ⊢; omega)
  by_cases c21 : (l0.length : Int) < (l1.length : Int)
  ·rw [if_pos c21] at H
   have c21b0 : decide ((l0.length : Int) < (l1.length : Int)) = true := decide_eq_true c21
   have c21b1 : decide (l0.length < l1.length) = true := decide_eq_true (Int.ofNat_lt.mp c21)
   clear c21
   obtain rfl := oi H
   go_enter Tryz.func29, Tryz.ntmps29
   go_wp2
   go_ret
   exact ⟨zE, zB⟩
  rw [if_neg c21] at H
  have c21b0 : decide ((l0.length : Int) < (l1.length : Int)) = false := decide_eq_false c21
  have c21b1 : decide (l0.length < l1.length) = false := decide_eq_false (fun h => c21 (Int.ofNat_lt.mpr h))
  clear c21
  obtain rfl := oi H
  go_enter Tryz.func29, Tryz.ntmps29
  go_wp2
  go_ret
  exact ⟨zE, zB⟩
 rw [if_pos c3] at H
 have c3b0 : ((l0.length : Int) == (l1.length : Int)) = true := beq_iff_eq.mpr c3
 have c3b1 : ((l0.length : Int) != (l1.length : Int)) = false := bne_eq_false_iff_eq.mpr c3
 have c3b2 : (l0.length == l1.length) = true := by first | simpa using c3 | (simp at c3 ⊢; omega)
 clear c3
 have H' := am H
 clear H
 go_enter Tryz.func29, Tryz.ntmps29
 go_wp2
 go_loopg [5] k (fun kq v5 w' => ∃ (x5_1 : Int), v5 = .int .i64 x5_1 ∧ Aside0 (spec_CompareShapes.l0 kq l0 l1 x5_1 = some r) ∧ Aside0 (kq ≤ k) ∧ Aside0 (Below w.heap.size w w'))
 case atStart => exact ⟨(0), zS, H', ⟨Nat.le_refl _⟩, ⟨zB⟩⟩
 case round =>
  clear H'
  try clear c1
  try clear c2
  try clear p2
  try clear c3
  try clear c3b0
  try clear c3b1
  try clear c3b2
  obtain ⟨x5_1, rfl, HA, HK1, HB⟩ := hrel
  cases gk with
  | zero => exact absurd HA.out (by simp [spec_CompareShapes.l0])
  | succ k1 =>
   have H := HA.out
   clear HA
   simp only [spec_CompareShapes.l0] at H
   by_cases c4 : x5_1 < (l0.length : Int)
   rotate_left
   ·rw [if_neg c4] at H
    have c4b0 : decide (x5_1 < (l0.length : Int)) = false := decide_eq_false c4
    clear c4
    obtain rfl := oi H
    go_wp2
    go_ret
    exact ⟨zE, zB⟩
   rw [if_pos c4] at H
   have c4b0 : decide (x5_1 < (l0.length : Int)) = true := decide_eq_true c4
   clear c4
   by_cases c5 : 0 ≤ x5_1
   rotate_left
   ·rw [if_neg c5] at H
    exact absurd H (by simp)
   rw [if_pos c5] at H
   have c5b0 : decide (0 ≤ x5_1) = true := decide_eq_true c5
   clear c5
   by_cases c6 : x5_1 < (l1.length : Int)
   rotate_left
   ·rw [if_neg c6] at H
    exact absurd H (by simp)
   rw [if_pos c6] at H
   have c6b0 : decide (x5_1 < (l1.length : Int)) = true := decide_eq_true c6
   clear c6
   replace H := ob H
   obtain ⟨t208, A70, H⟩ := H
   (try dsimp only at H)
   have A7 := am A70
   clear A70
   by_cases c8 : t208 = true
   ·subst c8
    have H1 : (some (-1)) = some r := by first | (rw [if_pos rfl] at H; exact H) | rfl
    clear H
    have H := H1
    clear H1
    obtain rfl := oi H
    try go_wp2
    have n0_ := am (Bb3 HB.out)
    clear HB
    have HB := n0_
    clear n0_
    have p206 : 0 ≤ (x5_1 : Int) := zD
    have q206 : x5_1 < (l0.length : Int) := zD
    obtain ⟨ad206, e206, hx206_0, hx206_1⟩ := at_T44 HR0.out x5_1 p206 q206
    have hw206_1 := hx206_1
    have hw206_0 := hx206_0
    cases e206
    replace hx206_0 := pc HB.out hx206_0
    replace hx206_1 := pc HB.out hx206_1
    replace p206 := eq_true p206
    replace q206 := eq_true q206
    have p207 : 0 ≤ (x5_1 : Int) := zD
    have q207 : x5_1 < (l1.length : Int) := zD
    obtain ⟨ad207, e207, hx207_0, hx207_1⟩ := at_T44 HR1.out x5_1 p207 q207
    have hw207_1 := hx207_1
    have hw207_0 := hx207_0
    cases e207
    replace hx207_0 := pc HB.out hx207_0
    replace hx207_1 := pc HB.out hx207_1
    replace p207 := eq_true p207
    replace q207 := eq_true q207
    refine start_ (n := 9) (S := fun w' => w'.cell? (ad206.add ((x5_1).toNat * 2)) = some (.int .i64 ((rd_T44 l0 x5_1).f0)) ∧ w'.cell? ⟨(ad206.add ((x5_1).toNat * 2)).block, (ad206.add ((x5_1).toNat * 2)).off + 1, none⟩ = some (.int .i64 ((rd_T44 l0 x5_1).f1)) ∧ w'.cell? (ad207.add ((x5_1).toNat * 2)) = some (.int .i64 ((rd_T44 l1 x5_1).f0)) ∧ w'.cell? ⟨(ad207.add ((x5_1).toNat * 2)).block, (ad207.add ((x5_1).toNat * 2)).off + 1, none⟩ = some (.int .i64 ((rd_T44 l1 x5_1).f1))) (ds := []) spec_CompareShapes.m0 (by kernel_rfl) rfl rfl ⟨(pc HB.out hw206_0), (pc HB.out hw206_1), (pc HB.out hw207_0), (pc HB.out hw207_1)⟩ (fun hHeld => ?_); refine with_tabW spec_CompareShapes.tab8 spec_CompareShapes.bits8 (fun HT_ HW_ => ?_)
    generalize wr.drew = w9 at HB hx206_0 hx206_1 hx207_0 hx207_1 hHeld ⊢
    refine pure_ (i := 0) (N := some 22) (v := ?_) (a' := ?_) spec_CompareShapes.m1 rfl rfl zA (fun _ _ _ h => h) (Or.inl ⟨by rfl, ?_⟩) ?_ ?_
    rotate_left
    ·intro w'
     go_simp
     rfl
    rotate_left
    ·exact zP
    refine pure_ (i := 1) (N := some 23) (v := ?_) (a' := ?_) spec_CompareShapes.m2 rfl rfl zA (fun _ _ _ h => h) (Or.inl ⟨by rfl, ?_⟩) ?_ ?_
    rotate_left
    ·intro w'
     go_simp
     rfl
    rotate_left
    ·exact zP
    refine pure_ (i := 2) (N := some 24) (v := ?_) (a' := ?_) spec_CompareShapes.m3 rfl rfl zA (fun _ _ _ h => h) (Or.inl ⟨by rfl, ?_⟩) ?_ ?_
    rotate_left
    ·intro w'
     go_simp
     rfl
    rotate_left
    ·exact zP
    refine pure_ (i := 4) (N := some 26) (v := ?_) (a' := ?_) spec_CompareShapes.m4 rfl rfl zA (fun _ _ _ h => h) (Or.inl ⟨by rfl, ?_⟩) ?_ ?_
    rotate_left
    ·intro w'
     go_simp
     rfl
    rotate_left
    ·exact zP
    refine pure_ (i := 5) (N := some 27) (v := ?_) (a' := ?_) spec_CompareShapes.m5 rfl rfl zA (fun _ _ _ h => h) (Or.inl ⟨by rfl, ?_⟩) ?_ ?_
    rotate_left
    ·intro w'
     go_simp
     rfl
    rotate_left
    ·exact zP
    refine pure_ (i := 6) (N := some 28) (v := ?_) (a' := ?_) spec_CompareShapes.m6 rfl rfl zA (fun _ _ _ h => h) (Or.inl ⟨by rfl, ?_⟩) ?_ ?_
    rotate_left
    ·intro w'
     go_simp
     rfl
    rotate_left
    ·exact zP
    refine take_ (i := 3) (N := some 25) (v := ?_) (a' := ?_) spec_CompareShapes.m7 rfl rfl (take_ofW HT_.out HW_.out (by kernel_rfl)) (fun _ _ _ h => h) (Or.inl ⟨by rfl, ?_⟩) hHeld ?_ ?_
    rotate_left
    ·rintro w' ⟨s0, s1, s2, s3⟩
     go_simp
     rfl
    rotate_left
    ·exact zP
    refine take_ (i := 7) (N := some 29) (v := ?_) (a' := ?_) spec_CompareShapes.m8 rfl rfl (take_ofW HT_.out HW_.out (by kernel_rfl)) (fun _ _ _ h => h) (Or.inl ⟨by rfl, ?_⟩) hHeld ?_ ?_
    rotate_left
    ·rintro w' ⟨s0, s1, s2, s3⟩
     go_simp
     rfl
    rotate_left
    ·exact zP
    refine one_ (i := 8) (N := some 30) spec_CompareShapes.m9 rfl rfl (one_of HT_.out (by kernel_rfl)) (by decide) (fun K hK => ?_)
    refine goes_ Tryz.func48 (by kernel_rfl) rfl #[.agg #[.int .i64 ((rd_T44 l0 x5_1).f0), .int .i64 ((rd_T44 l0 x5_1).f1)], .agg #[.int .i64 ((rd_T44 l1 x5_1).f0), .int .i64 ((rd_T44 l1 x5_1).f1)]] (by rfl) rfl rfl zL ?_
    with_reducible refine (spec_l02Less.calls ((rd_T44 l0 x5_1).f0) ((rd_T44 l0 x5_1).f1) ((rd_T44 l1 x5_1).f0) ((rd_T44 l1 x5_1).f1) true _ A7.out).mono ?_
    rintro e w10 ⟨rfl, hb⟩
    refine ⟨_, rfl, ?_⟩
    have n0_ := am (Bb6 zB hb)
    clear HB
    have HB := n0_
    clear n0_
    (try clear hb)
    (try clear hb2)
    (try clear hk)
    (try clear hi)
    refine hK.out _ _ ⟨(pc HB.out hw206_0), (pc HB.out hw206_1), (pc HB.out hw207_0), (pc HB.out hw207_1)⟩ (fun hHeld => ?_)
    clear hK K
    refine norm_ (a' := ?_) ?_ ?_
    rotate_left
    ·show Act.put _ (some 30) _ = _
     simp only [Act.put, sa, i64_w, i32_w]
     rfl
    refine done_ (done_of HT_.out (by kernel_rfl)) ?_
    try go_wp2
    go_ret
    exact ⟨zE, zB⟩
   replace c8 := ef c8
   subst c8
   have H1 : ((spec_l02Less.f ((rd_T44 l1 x5_1).f0) ((rd_T44 l1 x5_1).f1) ((rd_T44 l0 x5_1).f0) ((rd_T44 l0 x5_1).f1)).bind fun t211 => (if t211 = true then (some 1) else (spec_CompareShapes.l0 k1 l0 l1 (wrap64 (x5_1 + 1))))) = some r := by first | (rw [if_neg (show ¬ (false = true) by decide)] at H; exact H) | rfl
   clear H
   have H := H1
   clear H1
   replace H := ob H
   obtain ⟨t211, A110, H⟩ := H
   (try dsimp only at H)
   have A11 := am A110
   clear A110
   by_cases c12 : t211 = true
   ·subst c12
    have H1 : (some 1) = some r := by first | (rw [if_pos rfl] at H; exact H) | rfl
    clear H
    have H := H1
    clear H1
    obtain rfl := oi H
    try go_wp2
    have n0_ := am (Bb3 HB.out)
    clear HB
    have HB := n0_
    clear n0_
    have p206 : 0 ≤ (x5_1 : Int) := zD
    have q206 : x5_1 < (l0.length : Int) := zD
    obtain ⟨ad206, e206, hx206_0, hx206_1⟩ := at_T44 HR0.out x5_1 p206 q206
    have hw206_1 := hx206_1
    have hw206_0 := hx206_0
    cases e206
    replace hx206_0 := pc HB.out hx206_0
    replace hx206_1 := pc HB.out hx206_1
    replace p206 := eq_true p206
    replace q206 := eq_true q206
    have p207 : 0 ≤ (x5_1 : Int) := zD
    have q207 : x5_1 < (l1.length : Int) := zD
    obtain ⟨ad207, e207, hx207_0, hx207_1⟩ := at_T44 HR1.out x5_1 p207 q207
    have hw207_1 := hx207_1
    have hw207_0 := hx207_0
    cases e207
    replace hx207_0 := pc HB.out hx207_0
    replace hx207_1 := pc HB.out hx207_1
    replace p207 := eq_true p207
    replace q207 := eq_true q207
    refine start_ (n := 9) (S := fun w' => w'.cell? (ad206.add ((x5_1).toNat * 2)) = some (.int .i64 ((rd_T44 l0 x5_1).f0)) ∧ w'.cell? ⟨(ad206.add ((x5_1).toNat * 2)).block, (ad206.add ((x5_1).toNat * 2)).off + 1, none⟩ = some (.int .i64 ((rd_T44 l0 x5_1).f1)) ∧ w'.cell? (ad207.add ((x5_1).toNat * 2)) = some (.int .i64 ((rd_T44 l1 x5_1).f0)) ∧ w'.cell? ⟨(ad207.add ((x5_1).toNat * 2)).block, (ad207.add ((x5_1).toNat * 2)).off + 1, none⟩ = some (.int .i64 ((rd_T44 l1 x5_1).f1))) (ds := []) spec_CompareShapes.m0 (by kernel_rfl) rfl rfl ⟨(pc HB.out hw206_0), (pc HB.out hw206_1), (pc HB.out hw207_0), (pc HB.out hw207_1)⟩ (fun hHeld => ?_); refine with_tabW spec_CompareShapes.tab8 spec_CompareShapes.bits8 (fun HT_ HW_ => ?_)
    generalize wr.drew = w13 at HB hx206_0 hx206_1 hx207_0 hx207_1 hHeld ⊢
    refine pure_ (i := 0) (N := some 22) (v := ?_) (a' := ?_) spec_CompareShapes.m1 rfl rfl zA (fun _ _ _ h => h) (Or.inl ⟨by rfl, ?_⟩) ?_ ?_
    rotate_left
    ·intro w'
     go_simp
     rfl
    rotate_left
    ·exact zP
    refine pure_ (i := 1) (N := some 23) (v := ?_) (a' := ?_) spec_CompareShapes.m2 rfl rfl zA (fun _ _ _ h => h) (Or.inl ⟨by rfl, ?_⟩) ?_ ?_
    rotate_left
    ·intro w'
     go_simp
     rfl
    rotate_left
    ·exact zP
    refine pure_ (i := 2) (N := some 24) (v := ?_) (a' := ?_) spec_CompareShapes.m3 rfl rfl zA (fun _ _ _ h => h) (Or.inl ⟨by rfl, ?_⟩) ?_ ?_
    rotate_left
    ·intro w'
     go_simp
     rfl
    rotate_left
    ·exact zP
    refine pure_ (i := 4) (N := some 26) (v := ?_) (a' := ?_) spec_CompareShapes.m4 rfl rfl zA (fun _ _ _ h => h) (Or.inl ⟨by rfl, ?_⟩) ?_ ?_
    rotate_left
    ·intro w'
     go_simp
     rfl
    rotate_left
    ·exact zP
    refine pure_ (i := 5) (N := some 27) (v := ?_) (a' := ?_) spec_CompareShapes.m5 rfl rfl zA (fun _ _ _ h => h) (Or.inl ⟨by rfl, ?_⟩) ?_ ?_
    rotate_left
    ·intro w'
     go_simp
     rfl
    rotate_left
    ·exact zP
    refine pure_ (i := 6) (N := some 28) (v := ?_) (a' := ?_) spec_CompareShapes.m6 rfl rfl zA (fun _ _ _ h => h) (Or.inl ⟨by rfl, ?_⟩) ?_ ?_
    rotate_left
    ·intro w'
     go_simp
     rfl
    rotate_left
    ·exact zP
    refine take_ (i := 3) (N := some 25) (v := ?_) (a' := ?_) spec_CompareShapes.m7 rfl rfl (take_ofW HT_.out HW_.out (by kernel_rfl)) (fun _ _ _ h => h) (Or.inl ⟨by rfl, ?_⟩) hHeld ?_ ?_
    rotate_left
    ·rintro w' ⟨s0, s1, s2, s3⟩
     go_simp
     rfl
    rotate_left
    ·exact zP
    refine take_ (i := 7) (N := some 29) (v := ?_) (a' := ?_) spec_CompareShapes.m8 rfl rfl (take_ofW HT_.out HW_.out (by kernel_rfl)) (fun _ _ _ h => h) (Or.inl ⟨by rfl, ?_⟩) hHeld ?_ ?_
    rotate_left
    ·rintro w' ⟨s0, s1, s2, s3⟩
     go_simp
     rfl
    rotate_left
    ·exact zP
    refine one_ (i := 8) (N := some 30) spec_CompareShapes.m9 rfl rfl (one_of HT_.out (by kernel_rfl)) (by decide) (fun K hK => ?_)
    refine goes_ Tryz.func48 (by kernel_rfl) rfl #[.agg #[.int .i64 ((rd_T44 l0 x5_1).f0), .int .i64 ((rd_T44 l0 x5_1).f1)], .agg #[.int .i64 ((rd_T44 l1 x5_1).f0), .int .i64 ((rd_T44 l1 x5_1).f1)]] (by rfl) rfl rfl zL ?_
    with_reducible refine (spec_l02Less.calls ((rd_T44 l0 x5_1).f0) ((rd_T44 l0 x5_1).f1) ((rd_T44 l1 x5_1).f0) ((rd_T44 l1 x5_1).f1) false _ A7.out).mono ?_
    rintro e w14 ⟨rfl, hb⟩
    refine ⟨_, rfl, ?_⟩
    have n0_ := am (Bb6 zB hb)
    clear HB
    have HB := n0_
    clear n0_
    (try clear hb)
    (try clear hb2)
    (try clear hk)
    (try clear hi)
    refine hK.out _ _ ⟨(pc HB.out hw206_0), (pc HB.out hw206_1), (pc HB.out hw207_0), (pc HB.out hw207_1)⟩ (fun hHeld => ?_)
    clear hK K
    refine norm_ (a' := ?_) ?_ ?_
    rotate_left
    ·show Act.put _ (some 30) _ = _
     simp only [Act.put, sa, i64_w, i32_w]
     rfl
    refine done_ (done_of HT_.out (by kernel_rfl)) ?_
    try go_wp2
    have n0_ := am (Bb3 HB.out)
    clear HB
    have HB := n0_
    clear n0_
    have p209 : 0 ≤ (x5_1 : Int) := zD
    have q209 : x5_1 < (l1.length : Int) := zD
    obtain ⟨ad209, e209, hx209_0, hx209_1⟩ := at_T44 HR1.out x5_1 p209 q209
    have hw209_1 := hx209_1
    have hw209_0 := hx209_0
    obtain rfl : ad207 = ad209 := (by injection e209)
    replace hx209_0 := pc HB.out hx209_0
    replace hx209_1 := pc HB.out hx209_1
    replace p209 := eq_true p209
    replace q209 := eq_true q209
    have p210 : 0 ≤ (x5_1 : Int) := zD
    have q210 : x5_1 < (l0.length : Int) := zD
    obtain ⟨ad210, e210, hx210_0, hx210_1⟩ := at_T44 HR0.out x5_1 p210 q210
    have hw210_1 := hx210_1
    have hw210_0 := hx210_0
    obtain rfl : ad206 = ad210 := (by injection e210)
    replace hx210_0 := pc HB.out hx210_0
    replace hx210_1 := pc HB.out hx210_1
    replace p210 := eq_true p210
    replace q210 := eq_true q210
    refine start_ (n := 9) (S := fun w' => w'.cell? (ad207.add ((x5_1).toNat * 2)) = some (.int .i64 ((rd_T44 l1 x5_1).f0)) ∧ w'.cell? ⟨(ad207.add ((x5_1).toNat * 2)).block, (ad207.add ((x5_1).toNat * 2)).off + 1, none⟩ = some (.int .i64 ((rd_T44 l1 x5_1).f1)) ∧ w'.cell? (ad206.add ((x5_1).toNat * 2)) = some (.int .i64 ((rd_T44 l0 x5_1).f0)) ∧ w'.cell? ⟨(ad206.add ((x5_1).toNat * 2)).block, (ad206.add ((x5_1).toNat * 2)).off + 1, none⟩ = some (.int .i64 ((rd_T44 l0 x5_1).f1))) (ds := []) spec_CompareShapes.m0 (by kernel_rfl) rfl rfl ⟨(pc HB.out hw209_0), (pc HB.out hw209_1), (pc HB.out hw210_0), (pc HB.out hw210_1)⟩ (fun hHeld => ?_); refine with_tabW spec_CompareShapes.tab10 spec_CompareShapes.bits10 (fun HT_ HW_ => ?_)
    generalize w14.drew = w15 at HB hx209_0 hx209_1 hx210_0 hx210_1 hHeld ⊢
    refine pure_ (i := 0) (N := some 31) (v := ?_) (a' := ?_) spec_CompareShapes.m1 rfl rfl zA (fun _ _ _ h => h) (Or.inl ⟨by rfl, ?_⟩) ?_ ?_
    rotate_left
    ·intro w'
     go_simp
     rfl
    rotate_left
    ·exact zP
    refine pure_ (i := 1) (N := some 32) (v := ?_) (a' := ?_) spec_CompareShapes.m2 rfl rfl zA (fun _ _ _ h => h) (Or.inl ⟨by rfl, ?_⟩) ?_ ?_
    rotate_left
    ·intro w'
     go_simp
     rfl
    rotate_left
    ·exact zP
    refine pure_ (i := 2) (N := some 33) (v := ?_) (a' := ?_) spec_CompareShapes.m3 rfl rfl zA (fun _ _ _ h => h) (Or.inl ⟨by rfl, ?_⟩) ?_ ?_
    rotate_left
    ·intro w'
     go_simp
     rfl
    rotate_left
    ·exact zP
    refine pure_ (i := 4) (N := some 35) (v := ?_) (a' := ?_) spec_CompareShapes.m4 rfl rfl zA (fun _ _ _ h => h) (Or.inl ⟨by rfl, ?_⟩) ?_ ?_
    rotate_left
    ·intro w'
     go_simp
     rfl
    rotate_left
    ·exact zP
    refine pure_ (i := 5) (N := some 36) (v := ?_) (a' := ?_) spec_CompareShapes.m5 rfl rfl zA (fun _ _ _ h => h) (Or.inl ⟨by rfl, ?_⟩) ?_ ?_
    rotate_left
    ·intro w'
     go_simp
     rfl
    rotate_left
    ·exact zP
    refine pure_ (i := 6) (N := some 37) (v := ?_) (a' := ?_) spec_CompareShapes.m6 rfl rfl zA (fun _ _ _ h => h) (Or.inl ⟨by rfl, ?_⟩) ?_ ?_
    rotate_left
    ·intro w'
     go_simp
     rfl
    rotate_left
    ·exact zP
    refine take_ (i := 3) (N := some 34) (v := ?_) (a' := ?_) spec_CompareShapes.m7 rfl rfl (take_ofW HT_.out HW_.out (by kernel_rfl)) (fun _ _ _ h => h) (Or.inl ⟨by rfl, ?_⟩) hHeld ?_ ?_
    rotate_left
    ·rintro w' ⟨s0, s1, s2, s3⟩
     go_simp
     rfl
    rotate_left
    ·exact zP
    refine take_ (i := 7) (N := some 38) (v := ?_) (a' := ?_) spec_CompareShapes.m8 rfl rfl (take_ofW HT_.out HW_.out (by kernel_rfl)) (fun _ _ _ h => h) (Or.inl ⟨by rfl, ?_⟩) hHeld ?_ ?_
    rotate_left
    ·rintro w' ⟨s0, s1, s2, s3⟩
     go_simp
     rfl
    rotate_left
    ·exact zP
    refine one_ (i := 8) (N := some 39) spec_CompareShapes.m9 rfl rfl (one_of HT_.out (by kernel_rfl)) (by decide) (fun K hK => ?_)
    refine goes_ Tryz.func48 (by kernel_rfl) rfl #[.agg #[.int .i64 ((rd_T44 l1 x5_1).f0), .int .i64 ((rd_T44 l1 x5_1).f1)], .agg #[.int .i64 ((rd_T44 l0 x5_1).f0), .int .i64 ((rd_T44 l0 x5_1).f1)]] (by rfl) rfl rfl zL ?_
    with_reducible refine (spec_l02Less.calls ((rd_T44 l1 x5_1).f0) ((rd_T44 l1 x5_1).f1) ((rd_T44 l0 x5_1).f0) ((rd_T44 l0 x5_1).f1) true _ A11.out).mono ?_
    rintro e w16 ⟨rfl, hb⟩
    refine ⟨_, rfl, ?_⟩
    have n0_ := am (Bb6 zB hb)
    clear HB
    have HB := n0_
    clear n0_
    (try clear hb)
    (try clear hb2)
    (try clear hk)
    (try clear hi)
    refine hK.out _ _ ⟨(pc HB.out hw209_0), (pc HB.out hw209_1), (pc HB.out hw210_0), (pc HB.out hw210_1)⟩ (fun hHeld => ?_)
    clear hK K
    refine norm_ (a' := ?_) ?_ ?_
    rotate_left
    ·show Act.put _ (some 39) _ = _
     simp only [Act.put, sa, i64_w, i32_w]
     rfl
    refine done_ (done_of HT_.out (by kernel_rfl)) ?_
    try go_wp2
    go_ret
    exact ⟨zE, zB⟩
   replace c12 := ef c12
   subst c12
   have H1 : (spec_CompareShapes.l0 k1 l0 l1 (wrap64 (x5_1 + 1))) = some r := by first | (rw [if_neg (show ¬ (false = true) by decide)] at H; exact H) | rfl
   clear H
   have H := H1
   clear H1
   have H' := am H
   clear H
   try go_wp2
   have n0_ := am (Bb3 HB.out)
   clear HB
   have HB := n0_
   clear n0_
   have p206 : 0 ≤ (x5_1 : Int) := zD
   have q206 : x5_1 < (l0.length : Int) := zD
   obtain ⟨ad206, e206, hx206_0, hx206_1⟩ := at_T44 HR0.out x5_1 p206 q206
   have hw206_1 := hx206_1
   have hw206_0 := hx206_0
   cases e206
   replace hx206_0 := pc HB.out hx206_0
   replace hx206_1 := pc HB.out hx206_1
   replace p206 := eq_true p206
   replace q206 := eq_true q206
   have p207 : 0 ≤ (x5_1 : Int) := zD
   have q207 : x5_1 < (l1.length : Int) := zD
   obtain ⟨ad207, e207, hx207_0, hx207_1⟩ := at_T44 HR1.out x5_1 p207 q207
   have hw207_1 := hx207_1
   have hw207_0 := hx207_0
   cases e207
   replace hx207_0 := pc HB.out hx207_0
   replace hx207_1 := pc HB.out hx207_1
   replace p207 := eq_true p207
   replace q207 := eq_true q207
   refine start_ (n := 9) (S := fun w' => w'.cell? (ad206.add ((x5_1).toNat * 2)) = some (.int .i64 ((rd_T44 l0 x5_1).f0)) ∧ w'.cell? ⟨(ad206.add ((x5_1).toNat * 2)).block, (ad206.add ((x5_1).toNat * 2)).off + 1, none⟩ = some (.int .i64 ((rd_T44 l0 x5_1).f1)) ∧ w'.cell? (ad207.add ((x5_1).toNat * 2)) = some (.int .i64 ((rd_T44 l1 x5_1).f0)) ∧ w'.cell? ⟨(ad207.add ((x5_1).toNat * 2)).block, (ad207.add ((x5_1).toNat * 2)).off + 1, none⟩ = some (.int .i64 ((rd_T44 l1 x5_1).f1))) (ds := []) spec_CompareShapes.m0 (by kernel_rfl) rfl rfl ⟨(pc HB.out hw206_0), (pc HB.out hw206_1), (pc HB.out hw207_0), (pc HB.out hw207_1)⟩ (fun hHeld => ?_); refine with_tabW spec_CompareShapes.tab8 spec_CompareShapes.bits8 (fun HT_ HW_ => ?_)
   generalize wr.drew = w17 at HB hx206_0 hx206_1 hx207_0 hx207_1 hHeld ⊢
   refine pure_ (i := 0) (N := some 22) (v := ?_) (a' := ?_) spec_CompareShapes.m1 rfl rfl zA (fun _ _ _ h => h) (Or.inl ⟨by rfl, ?_⟩) ?_ ?_
   rotate_left
   ·intro w'
    go_simp
    rfl
   rotate_left
   ·exact zP
   refine pure_ (i := 1) (N := some 23) (v := ?_) (a' := ?_) spec_CompareShapes.m2 rfl rfl zA (fun _ _ _ h => h) (Or.inl ⟨by rfl, ?_⟩) ?_ ?_
   rotate_left
   ·intro w'
    go_simp
    rfl
   rotate_left
   ·exact zP
   refine pure_ (i := 2) (N := some 24) (v := ?_) (a' := ?_) spec_CompareShapes.m3 rfl rfl zA (fun _ _ _ h => h) (Or.inl ⟨by rfl, ?_⟩) ?_ ?_
   rotate_left
   ·intro w'
    go_simp
    rfl
   rotate_left
   ·exact zP
   refine pure_ (i := 4) (N := some 26) (v := ?_) (a' := ?_) spec_CompareShapes.m4 rfl rfl zA (fun _ _ _ h => h) (Or.inl ⟨by rfl, ?_⟩) ?_ ?_
   rotate_left
   ·intro w'
    go_simp
    rfl
   rotate_left
   ·exact zP
   refine pure_ (i := 5) (N := some 27) (v := ?_) (a' := ?_) spec_CompareShapes.m5 rfl rfl zA (fun _ _ _ h => h) (Or.inl ⟨by rfl, ?_⟩) ?_ ?_
   rotate_left
   ·intro w'
    go_simp
    rfl
   rotate_left
   ·exact zP
   refine pure_ (i := 6) (N := some 28) (v := ?_) (a' := ?_) spec_CompareShapes.m6 rfl rfl zA (fun _ _ _ h => h) (Or.inl ⟨by rfl, ?_⟩) ?_ ?_
   rotate_left
   ·intro w'
    go_simp
    rfl
   rotate_left
   ·exact zP
   refine take_ (i := 3) (N := some 25) (v := ?_) (a' := ?_) spec_CompareShapes.m7 rfl rfl (take_ofW HT_.out HW_.out (by kernel_rfl)) (fun _ _ _ h => h) (Or.inl ⟨by rfl, ?_⟩) hHeld ?_ ?_
   rotate_left
   ·rintro w' ⟨s0, s1, s2, s3⟩
    go_simp
    rfl
   rotate_left
   ·exact zP
   refine take_ (i := 7) (N := some 29) (v := ?_) (a' := ?_) spec_CompareShapes.m8 rfl rfl (take_ofW HT_.out HW_.out (by kernel_rfl)) (fun _ _ _ h => h) (Or.inl ⟨by rfl, ?_⟩) hHeld ?_ ?_
   rotate_left
   ·rintro w' ⟨s0, s1, s2, s3⟩
    go_simp
    rfl
   rotate_left
   ·exact zP
   refine one_ (i := 8) (N := some 30) spec_CompareShapes.m9 rfl rfl (one_of HT_.out (by kernel_rfl)) (by decide) (fun K hK => ?_)
   refine goes_ Tryz.func48 (by kernel_rfl) rfl #[.agg #[.int .i64 ((rd_T44 l0 x5_1).f0), .int .i64 ((rd_T44 l0 x5_1).f1)], .agg #[.int .i64 ((rd_T44 l1 x5_1).f0), .int .i64 ((rd_T44 l1 x5_1).f1)]] (by rfl) rfl rfl zL ?_
   with_reducible refine (spec_l02Less.calls ((rd_T44 l0 x5_1).f0) ((rd_T44 l0 x5_1).f1) ((rd_T44 l1 x5_1).f0) ((rd_T44 l1 x5_1).f1) false _ A7.out).mono ?_
   rintro e w18 ⟨rfl, hb⟩
   refine ⟨_, rfl, ?_⟩
   have n0_ := am (Bb6 zB hb)
   clear HB
   have HB := n0_
   clear n0_
   (try clear hb)
   (try clear hb2)
   (try clear hk)
   (try clear hi)
   refine hK.out _ _ ⟨(pc HB.out hw206_0), (pc HB.out hw206_1), (pc HB.out hw207_0), (pc HB.out hw207_1)⟩ (fun hHeld => ?_)
   clear hK K
   refine norm_ (a' := ?_) ?_ ?_
   rotate_left
   ·show Act.put _ (some 30) _ = _
    simp only [Act.put, sa, i64_w, i32_w]
    rfl
   refine done_ (done_of HT_.out (by kernel_rfl)) ?_
   try go_wp2
   have n0_ := am (Bb3 HB.out)
   clear HB
   have HB := n0_
   clear n0_
   have p209 : 0 ≤ (x5_1 : Int) := zD
   have q209 : x5_1 < (l1.length : Int) := zD
   obtain ⟨ad209, e209, hx209_0, hx209_1⟩ := at_T44 HR1.out x5_1 p209 q209
   have hw209_1 := hx209_1
   have hw209_0 := hx209_0
   obtain rfl : ad207 = ad209 := (by injection e209)
   replace hx209_0 := pc HB.out hx209_0
   replace hx209_1 := pc HB.out hx209_1
   replace p209 := eq_true p209
   replace q209 := eq_true q209
   have p210 : 0 ≤ (x5_1 : Int) := zD
   have q210 : x5_1 < (l0.length : Int) := zD
   obtain ⟨ad210, e210, hx210_0, hx210_1⟩ := at_T44 HR0.out x5_1 p210 q210
   have hw210_1 := hx210_1
   have hw210_0 := hx210_0
   obtain rfl : ad206 = ad210 := (by injection e210)
   replace hx210_0 := pc HB.out hx210_0
   replace hx210_1 := pc HB.out hx210_1
   replace p210 := eq_true p210
   replace q210 := eq_true q210
   refine start_ (n := 9) (S := fun w' => w'.cell? (ad207.add ((x5_1).toNat * 2)) = some (.int .i64 ((rd_T44 l1 x5_1).f0)) ∧ w'.cell? ⟨(ad207.add ((x5_1).toNat * 2)).block, (ad207.add ((x5_1).toNat * 2)).off + 1, none⟩ = some (.int .i64 ((rd_T44 l1 x5_1).f1)) ∧ w'.cell? (ad206.add ((x5_1).toNat * 2)) = some (.int .i64 ((rd_T44 l0 x5_1).f0)) ∧ w'.cell? ⟨(ad206.add ((x5_1).toNat * 2)).block, (ad206.add ((x5_1).toNat * 2)).off + 1, none⟩ = some (.int .i64 ((rd_T44 l0 x5_1).f1))) (ds := []) spec_CompareShapes.m0 (by kernel_rfl) rfl rfl ⟨(pc HB.out hw209_0), (pc HB.out hw209_1), (pc HB.out hw210_0), (pc HB.out hw210_1)⟩ (fun hHeld => ?_); refine with_tabW spec_CompareShapes.tab10 spec_CompareShapes.bits10 (fun HT_ HW_ => ?_)
   generalize w18.drew = w19 at HB hx209_0 hx209_1 hx210_0 hx210_1 hHeld ⊢
   refine pure_ (i := 0) (N := some 31) (v := ?_) (a' := ?_) spec_CompareShapes.m1 rfl rfl zA (fun _ _ _ h => h) (Or.inl ⟨by rfl, ?_⟩) ?_ ?_
   rotate_left
   ·intro w'
    go_simp
    rfl
   rotate_left
   ·exact zP
   refine pure_ (i := 1) (N := some 32) (v := ?_) (a' := ?_) spec_CompareShapes.m2 rfl rfl zA (fun _ _ _ h => h) (Or.inl ⟨by rfl, ?_⟩) ?_ ?_
   rotate_left
   ·intro w'
    go_simp
    rfl
   rotate_left
   ·exact zP
   refine pure_ (i := 2) (N := some 33) (v := ?_) (a' := ?_) spec_CompareShapes.m3 rfl rfl zA (fun _ _ _ h => h) (Or.inl ⟨by rfl, ?_⟩) ?_ ?_
   rotate_left
   ·intro w'
    go_simp
    rfl
   rotate_left
   ·exact zP
   refine pure_ (i := 4) (N := some 35) (v := ?_) (a' := ?_) spec_CompareShapes.m4 rfl rfl zA (fun _ _ _ h => h) (Or.inl ⟨by rfl, ?_⟩) ?_ ?_
   rotate_left
   ·intro w'
    go_simp
    rfl
   rotate_left
   ·exact zP
   refine pure_ (i := 5) (N := some 36) (v := ?_) (a' := ?_) spec_CompareShapes.m5 rfl rfl zA (fun _ _ _ h => h) (Or.inl ⟨by rfl, ?_⟩) ?_ ?_
   rotate_left
   ·intro w'
    go_simp
    rfl
   rotate_left
   ·exact zP
   refine pure_ (i := 6) (N := some 37) (v := ?_) (a' := ?_) spec_CompareShapes.m6 rfl rfl zA (fun _ _ _ h => h) (Or.inl ⟨by rfl, ?_⟩) ?_ ?_
   rotate_left
   ·intro w'
    go_simp
    rfl
   rotate_left
   ·exact zP
   refine take_ (i := 3) (N := some 34) (v := ?_) (a' := ?_) spec_CompareShapes.m7 rfl rfl (take_ofW HT_.out HW_.out (by kernel_rfl)) (fun _ _ _ h => h) (Or.inl ⟨by rfl, ?_⟩) hHeld ?_ ?_
   rotate_left
   ·rintro w' ⟨s0, s1, s2, s3⟩
    go_simp
    rfl
   rotate_left
   ·exact zP
   refine take_ (i := 7) (N := some 38) (v := ?_) (a' := ?_) spec_CompareShapes.m8 rfl rfl (take_ofW HT_.out HW_.out (by kernel_rfl)) (fun _ _ _ h => h) (Or.inl ⟨by rfl, ?_⟩) hHeld ?_ ?_
   rotate_left
   ·rintro w' ⟨s0, s1, s2, s3⟩
    go_simp
    rfl
   rotate_left
   ·exact zP
   refine one_ (i := 8) (N := some 39) spec_CompareShapes.m9 rfl rfl (one_of HT_.out (by kernel_rfl)) (by decide) (fun K hK => ?_)
   refine goes_ Tryz.func48 (by kernel_rfl) rfl #[.agg #[.int .i64 ((rd_T44 l1 x5_1).f0), .int .i64 ((rd_T44 l1 x5_1).f1)], .agg #[.int .i64 ((rd_T44 l0 x5_1).f0), .int .i64 ((rd_T44 l0 x5_1).f1)]] (by rfl) rfl rfl zL ?_
   with_reducible refine (spec_l02Less.calls ((rd_T44 l1 x5_1).f0) ((rd_T44 l1 x5_1).f1) ((rd_T44 l0 x5_1).f0) ((rd_T44 l0 x5_1).f1) false _ A11.out).mono ?_
   rintro e w20 ⟨rfl, hb⟩
   refine ⟨_, rfl, ?_⟩
   have n0_ := am (Bb6 zB hb)
   clear HB
   have HB := n0_
   clear n0_
   (try clear hb)
   (try clear hb2)
   (try clear hk)
   (try clear hi)
   refine hK.out _ _ ⟨(pc HB.out hw209_0), (pc HB.out hw209_1), (pc HB.out hw210_0), (pc HB.out hw210_1)⟩ (fun hHeld => ?_)
   clear hK K
   refine norm_ (a' := ?_) ?_ ?_
   rotate_left
   ·show Act.put _ (some 39) _ = _
    simp only [Act.put, sa, i64_w, i32_w]
    rfl
   refine done_ (done_of HT_.out (by kernel_rfl)) ?_
   try go_wp2
   go_roundg k1
   case measure => have := HK1.out; omega
   case rel => exact ⟨(wrap64 (x5_1 + 1)), zS, H', ⟨by have := HK1.out; omega⟩, ⟨zB⟩⟩

/-! ### spec_l03Add: function 68 -/
def spec_l03Add.l0 : Nat → List (List (S44)) → List (S44) → List (List (S44)) → Bool → Int → Option ((List (List (S44))))
 | 0, _, _, _, _, _ => none
 | k + 1, x0, x1, x5, x6, x7 => if x7 < (x0.length : Int) then (if 0 ≤ x7 then ((spec_CompareShapes.f k x1 (rd_L4 x0 x7)).bind fun t219 => (if t219 = 0 then (some x0) else (if t219 < 0 then (if x6 = true then (if x5.length < 5864062014805 then (spec_l03Add.l0 k x0 x1 (x5 ++ [rd_L4 x0 x7]) x6 (wrap64 (x7 + 1))) else (none)) else (if x5.length < 5864062014805 then ((some (x5 ++ [x1] : List (List (S44)))).bind fun y224 => (if y224.length < 5864062014805 then (spec_l03Add.l0 k x0 x1 (y224 ++ [rd_L4 x0 x7]) true (wrap64 (x7 + 1))) else (none))) else (none))) else (if x5.length < 5864062014805 then (spec_l03Add.l0 k x0 x1 (x5 ++ [rd_L4 x0 x7]) x6 (wrap64 (x7 + 1))) else (none))))) else (none)) else (if x6 = true then (some x5) else (if x5.length < 5864062014805 then (some (x5 ++ [x1])) else (none)))
def spec_l03Add.f (k : Nat) (l0 : List (List (S44))) (l1 : List (S44)) : Option ((List (List (S44)))) := spec_l03Add.l0 k l0 l1 (([] : List (List (S44)))) false 0
theorem spec_l03Add.mono_l : ∀ k, (∀ y0 y1 y2 y3 y4, LeO (spec_l03Add.l0 k y0 y1 y2 y3 y4) (spec_l03Add.l0 (k + 1) y0 y1 y2 y3 y4))
 | 0 => fun _ _ _ _ _ r h => by simp [spec_l03Add.l0] at h
 | k + 1 => by
  have ih0 := spec_l03Add.mono_l k
  ·intro y0 y1 y2 y3 y4
   unfold spec_l03Add.l0
   with_reducible repeat' first | exact ih0 _ _ _ _ _ | exact spec_CompareShapes.mono _ _ _ | exact LeO.refl _ | exact LeO.none _ | refine LeO.ite ?_ ?_ | refine LeO.bind ?_ (fun _ => ?_)
theorem spec_l03Add.mono : ∀ a0 a1 k, LeO (spec_l03Add.f k a0 a1) (spec_l03Add.f (k + 1) a0 a1) := by
 intro a0 a1 k
 have ih0 := spec_l03Add.mono_l k
 unfold spec_l03Add.f
 with_reducible repeat' first | exact ih0 _ _ _ _ _ | exact spec_CompareShapes.mono _ _ _ | exact LeO.refl _ | exact LeO.none _ | refine LeO.ite ?_ ?_ | refine LeO.bind ?_ (fun _ => ?_)
set_option maxHeartbeats 8000000 in
set_option maxRecDepth 100000 in
theorem spec_l03Add.calls (k : Nat) (P0_ : Nat → Prop) (A0 : Option Addr) (c0 : Nat) (l0 : List (List (S44))) (P1_ : Nat → Prop) (A1 : Option Addr) (c1 : Nat) (l1 : List (S44)) (r : List (List (S44))) (w : World) (hs0 : Kd.V (Kd.slice 44 k44) 29 w w.heap.size (fun k_ => P0_ k_) (.slice A0 l0.length c0) l0) (hs1 : Kd.V k44 44 w w.heap.size (fun k_ => P1_ k_) (.slice A1 l1.length c1) l1) (h : spec_l03Add.f k l0 l1 = some r) :
  Calls Tryz.prog 68 #[.slice A0 l0.length c0, .slice A1 l1.length c1] w fun e w' => ∃ v0_ : Value, e = .returned (v0_) ∧ Kd.V (Kd.slice 44 k44) 29 w' w.heap.size (fun k_ => ((P0_ k_ ∨ P1_ k_) ∨ w.heap.size ≤ k_)) v0_ r ∧ Below w.heap.size w w' := by
 have HO0 := am (show Kd.V (Kd.slice 44 k44) 29 w w.heap.size (fun k_ => ((P0_ k_ ∨ P1_ k_) ∨ w.heap.size ≤ k_)) (.slice A0 l0.length c0) l0 from Kd.V_mono hs0 (fun k_ hk => .inl (.inl hk)))
 have HO1 := am (show Kd.V k44 44 w w.heap.size (fun k_ => ((P0_ k_ ∨ P1_ k_) ∨ w.heap.size ≤ k_)) (.slice A1 l1.length c1) l1 from Kd.V_mono hs1 (fun k_ hk => .inl (.inr hk)))
 have HB := am (Below.refl w.heap.size w)
 have H : (spec_l03Add.l0 k l0 l1 (([] : List (List (S44)))) false 0) = some r := h
 clear h
 obtain ⟨y212, hy212⟩ : ∃ y_ : List (List (S44)), y_ = (([] : List (List (S44)))) := ⟨_, rfl⟩
 replace H : (spec_l03Add.l0 k l0 l1 y212 false 0) = some r := by first | (rw [hy212]; with_reducible exact H) | (have H2_ := (Option.bind_some _ _).symm.trans H; rw [hy212]; with_reducible exact H2_) | (have H2_ := (Option.bind_some _ _).symm.trans H; with_reducible exact H2_) | with_reducible exact H | (rw [hy212]; exact H) | exact H
 have Ny212 := am hy212
 clear hy212
 have H' := am H
 clear H
 go_enter Tryz.func68, Tryz.ntmps68
 go_wp2_with (first | ((with_reducible refine gate_dst (N := 9) rfl ?_); refine Kd.N_lit (Kd.slice 44 k44) _ 29 ?hg (N' := 9) ?hd (xs := ([] : List (List (S44)))) (inner := []) (ok := (fun k_ => ((P0_ k_ ∨ P1_ k_) ∨ w.heap.size ≤ k_))) (okp := (fun k_ => ((P0_ k_ ∨ P1_ k_) ∨ w.heap.size ≤ k_))) ?hr ?hp (fun _ hk => hk) ((show ∀ k_, w.heap.size ≤ k_ → (fun k_ => ((P0_ k_ ∨ P1_ k_) ∨ w.heap.size ≤ k_)) k_ from fun k_ hk => (.inr (Nat.le_trans (Bb5 zB) hk))) _ (Nat.le_refl _)) (Below.refl _ _) (Nat.le_refl _) (by simp) ?_; (case hd => rfl); (case hg => rfl); (case hr => first | (go_simp; done) | (go_simp; rfl)); (case hp => exact (Reps.none _ _)); intro v213 w3 ho4 hb hg_ hnew_; clear hg_ hnew_; (first | rw [← Ny212.out] at ho4 | (simp only [Int.reduceToNat] at ho4; rw [← Ny212.out] at ho4)); have n0_ := am (Kd.V_elder' (by (with_reducible repeat (first | apply Kd.V_alloc | apply Kd.V_drewN | apply Kd.V_drew)); exact HO0.out) (Kd.N_base ho4) hb); have n1_ := am (Kd.V_elder' (by (with_reducible repeat (first | apply Kd.V_alloc | apply Kd.V_drewN | apply Kd.V_drew)); exact HO1.out) (Kd.N_base ho4) hb); have n2_ := am (Kd.N_lower ho4 (Bb5 zB)); have n3_ := am (Bb6 zB hb); clear HO0; clear HO1; clear HB; have HO0 := n0_; have HO1 := n1_; have HO214 := n2_; have HB := n3_; clear n0_ n1_ n2_ n3_; clear hb ho4))
 go_loopg [5, 6, 7] k (fun kq v5 v6 v7 w' => ∃ (x5_1 : List (List (S44))) (x6_1 : Bool) (x7_1 : Int), v6 = .bool x6_1 ∧ v7 = .int .i64 x7_1 ∧ Aside0 (spec_l03Add.l0 kq l0 l1 x5_1 x6_1 x7_1 = some r) ∧ Aside0 (kq ≤ k) ∧ Aside0 (Kd.V (Kd.slice 44 k44) 29 w' w.heap.size (fun k_ => ((P0_ k_ ∨ P1_ k_) ∨ w.heap.size ≤ k_) ∧ some k_ ≠ (v5 : Value).ownBlock) (.slice A0 l0.length c0) l0) ∧ Aside0 (Kd.V k44 44 w' w.heap.size (fun k_ => ((P0_ k_ ∨ P1_ k_) ∨ w.heap.size ≤ k_) ∧ some k_ ≠ (v5 : Value).ownBlock) (.slice A1 l1.length c1) l1) ∧ Aside0 (Kd.N (Kd.slice 44 k44) 29 w' w.heap.size (fun k_ => ((P0_ k_ ∨ P1_ k_) ∨ w.heap.size ≤ k_)) v5 x5_1) ∧ Aside0 (Below w.heap.size w w'))
 case atStart => exact ⟨(y212), (false), (0), zS, zS, H', ⟨Nat.le_refl _⟩, ⟨by (with_reducible repeat (first | apply Kd.V_alloc | apply Kd.V_drewN | apply Kd.V_drew)); exact HO0.out⟩, ⟨by (with_reducible repeat (first | apply Kd.V_alloc | apply Kd.V_drewN | apply Kd.V_drew)); exact HO1.out⟩, ⟨by (with_reducible repeat (first | apply Kd.N_alloc | apply Kd.N_drewN | apply Kd.N_drew)); exact HO214.out⟩, ⟨zB⟩⟩
 case round =>
  clear H'
  try clear c1
  try clear p2
  obtain ⟨x5_1, x6_1, x7_1, rfl, rfl, HA, HK1, HO_0, HO_1, HO_5, HB⟩ := hrel
  cases gk with
  | zero => exact absurd HA.out (by simp [spec_l03Add.l0])
  | succ k1 =>
   have H := HA.out
   clear HA
   simp only [spec_l03Add.l0] at H
   by_cases c5 : x7_1 < (l0.length : Int)
   rotate_left
   ·rw [if_neg c5] at H
    have c5b0 : decide (x7_1 < (l0.length : Int)) = false := decide_eq_false c5
    clear c5
    by_cases c23 : x6_1 = true
    ·subst c23
     have H1 : (some x5_1) = some r := by first | (rw [if_pos rfl] at H; exact H) | rfl
     clear H
     have H := H1
     clear H1
     obtain rfl := oi H
     go_wp2
     go_ret
     exact ⟨_, zE, Kd.N_V (by (with_reducible repeat (first | apply Kd.N_alloc | apply Kd.N_drewN | apply Kd.N_drew)); exact HO_5.out), zB⟩
    replace c23 := ef c23
    subst c23
    have H1 : (if x5_1.length < 5864062014805 then (some (x5_1 ++ [l1])) else (none)) = some r := by first | (rw [if_neg (show ¬ (false = true) by decide)] at H; exact H) | rfl
    clear H
    have H := H1
    clear H1
    by_cases c24 : x5_1.length < 5864062014805
    rotate_left
    ·rw [if_neg c24] at H
     exact absurd H (by simp)
    rw [if_pos c24] at H
    have LMc24 := am c24
    clear c24
    obtain ⟨y215, hy215⟩ : ∃ y_ : List (List (S44)), y_ = (x5_1 ++ [l1]) := ⟨_, rfl⟩
    replace H : (some y215) = some r := by first | (rw [hy215]; with_reducible exact H) | (have H2_ := (Option.bind_some _ _).symm.trans H; rw [hy215]; with_reducible exact H2_) | (have H2_ := (Option.bind_some _ _).symm.trans H; with_reducible exact H2_) | with_reducible exact H | (rw [hy215]; exact H) | exact H
    have Ny215 := am hy215
    clear hy215
    obtain rfl := oi H
    go_wp2_with (first | ((with_reducible refine gate_builtin (b := .append) (xs := #[.tmp 44, .tmp 46]) rfl ?_); at_builtin; refine Kd.N_append (Kd.slice 44 k44) (w0 := w) w.heap.size rfl (.tmp 44) (.tmp 46) 33 29 (.slice none 0 0) 24 rfl Tryz.underlying33 info29 rfl (by decide) (by omega) u5 x5_1 l1 [.slice A1 l1.length c1] (fun k_ => ((P0_ k_ ∨ P1_ k_) ∨ w.heap.size ≤ k_)) (fun k_ => ((fun k_ => ((P0_ k_ ∨ P1_ k_) ∨ w.heap.size ≤ k_))) k_ ∧ some k_ ≠ (u5 : Value).ownBlock) rfl rfl ?aP (fun _ hk => hk) ?aF ?aO ?aB ?aS ?aL ?_; (case aP => exact (Kd.FK_slice_mk (Kd.V_reads' (Kd.V_mono (ok' := (fun k_ => ((fun k_ => ((P0_ k_ ∨ P1_ k_) ∨ w.heap.size ≤ k_))) k_ ∧ some k_ ≠ (u5 : Value).ownBlock)) (HO_1.out) (fun k_ hk => ⟨hk.1, hk.2⟩))).2.1 (Kd.V_F (Kd.V_mono (ok' := (fun k_ => ((fun k_ => ((P0_ k_ ∨ P1_ k_) ∨ w.heap.size ≤ k_))) k_ ∧ some k_ ≠ (u5 : Value).ownBlock)) (HO_1.out) (fun k_ hk => ⟨hk.1, hk.2⟩))))); (case aB => exact zB); (case aF => exact (fun k_ hk => (.inr (Nat.le_trans (Bb5 zB) hk)))); (case aO => exact (by (with_reducible repeat (first | apply Kd.N_alloc | apply Kd.N_drewN | apply Kd.N_drew)); exact HO_5.out)); (case aS => exact (Bb5 zB)); (case aL => first | (have := LMc24.out; omega) | (have h_ := Nat.le_of_lt LMc24.out; exact h_)); intro v216 w25 ho hb hg hat; rw [← Ny215.out] at ho; have n0_ := am (Kd.V_afterv (ok := (fun k_ => ((P0_ k_ ∨ P1_ k_) ∨ w.heap.size ≤ k_))) (by (with_reducible repeat (first | apply Kd.V_alloc | apply Kd.V_drewN | apply Kd.V_drew)); exact HO_0.out) hg hat); have n1_ := am (Kd.V_afterv (ok := (fun k_ => ((P0_ k_ ∨ P1_ k_) ∨ w.heap.size ≤ k_))) (by (with_reducible repeat (first | apply Kd.V_alloc | apply Kd.V_drewN | apply Kd.V_drew)); exact HO_1.out) hg hat); have n2_ := am (hb); have n3_ := am (ho); clear HO_0; clear HO_1; clear HB; clear HO_5; have HO_0 := n0_; have HO_1 := n1_; have HB := n2_; have HO217 := n3_; clear n0_ n1_ n2_ n3_; clear ho hb hg hat))
    go_ret
    exact ⟨_, zE, Kd.N_V (by (with_reducible repeat (first | apply Kd.N_alloc | apply Kd.N_drewN | apply Kd.N_drew)); exact HO217.out), zB⟩
   rw [if_pos c5] at H
   have c5b0 : decide (x7_1 < (l0.length : Int)) = true := decide_eq_true c5
   clear c5
   by_cases c6 : 0 ≤ x7_1
   rotate_left
   ·rw [if_neg c6] at H
    exact absurd H (by simp)
   rw [if_pos c6] at H
   have c6b0 : decide (0 ≤ x7_1) = true := decide_eq_true c6
   clear c6
   replace H := ob H
   obtain ⟨t219, A70, H⟩ := H
   (try dsimp only at H)
   have A7 := am A70
   clear A70
   by_cases c8 : t219 = 0
   ·rw [if_pos c8] at H
    have c8b0 : (t219 == 0) = true := beq_iff_eq.mpr c8
    have c8b1 : (t219 != 0) = false := bne_eq_false_iff_eq.mpr c8
    clear c8
    obtain rfl := oi H
    have p218 : 0 ≤ (x7_1 : Int) := zD
    have q218 : x7_1 < (l0.length : Int) := zD
    obtain ⟨ad218, A218_0, c218_0, e218, hx218_0, hl218_0, hi218_0⟩ := at_L4 (Kd.V_reads' HO_0.out).2.2 x7_1 p218 q218
    cases e218
    obtain ⟨ce218, hce218, hMe218, hcc218⟩ := Kd.V_get HO_0.out [] x7_1 p218 (by first | exact q218 | exact zD | (have e_ := (Kd.V_reads' HO_0.out).1; omega))
    obtain ⟨ua218_0, uc218_0, rfl, ul218_0, ge218_0⟩ := Kd.FK_slice_open hMe218
    have hv218_0 := hcc218 0 _ rfl
    rw [Nat.add_zero, show ((Kd.slice 44 k44)).sz = 1 from rfl, Nat.mul_one] at hv218_0
    replace hv218_0 := oi (hv218_0.symm.trans hx218_0)
    injection hv218_0 with hva_ hvn_ hvc_
    rw [hva_] at ge218_0
    rw [hvc_] at ul218_0
    have HL218_0 := am (show Kd.V k44 44 _ w.heap.size _ _ (rd_L4 l0 x7_1) from Kd.V_mk ul218_0 ge218_0)
    clear hva_ hvn_ hvc_ ge218_0 ul218_0
    clear hcc218 hce218
    have HR218_0 := am hi218_0
    have HC218_0 := am hl218_0
    clear hi218_0 hl218_0
    replace p218 := eq_true p218
    replace q218 := eq_true q218
    go_wp2_with (first | ((with_reducible refine gate_callee (f := 29) rfl ?_); refine goesL_ (some 21) rfl rfl Tryz.func29 (by kernel_rfl) rfl #[.slice A1 l1.length c1, .slice A218_0 (rd_L4 l0 x7_1).length c218_0] rfl zL ?_; (with_reducible refine (spec_CompareShapes.calls k1 _ _ l1 _ _ (rd_L4 l0 x7_1) t219 _ ?side1 ?side2 ?side3 ?side4 A7.out).mono ?_); (case side1 => repeat (first | exact (Kd.V_reads' HO_1.out).2.2 | (with_reducible refine Kd.C_alloc ?_ _) | (with_reducible refine Kd.C_drewN ?_ _) | (with_reducible refine Kd.C_drew ?_))); (case side2 => exact (Kd.V_reads' HO_1.out).2.1); (case side3 => repeat (first | exact (by repeat (first | (with_reducible exact HR218_0.out) | (with_reducible refine Kd.C_alloc ?_ _) | (with_reducible refine Kd.C_drewN ?_ _) | (with_reducible refine Kd.C_drew ?_) | exact HR218_0.out)) | (with_reducible refine Kd.C_alloc ?_ _) | (with_reducible refine Kd.C_drewN ?_ _) | (with_reducible refine Kd.C_drew ?_))); (case side4 => exact HC218_0.out); rintro e w9 ⟨rfl, hb⟩; refine ⟨_, rfl, ?_⟩; have n0_ := am (Kd.V_below (by (with_reducible repeat (first | apply Kd.V_alloc | apply Kd.V_drewN | apply Kd.V_drew)); exact HO_0.out) hb); have n1_ := am (Kd.V_below (by (with_reducible repeat (first | apply Kd.V_alloc | apply Kd.V_drewN | apply Kd.V_drew)); exact HO_1.out) hb); have n2_ := am (Kd.N_below (by (with_reducible repeat (first | apply Kd.N_alloc | apply Kd.N_drewN | apply Kd.N_drew)); exact HO_5.out) hb); have n3_ := am (Kd.V_below (by (with_reducible repeat (first | apply Kd.V_alloc | apply Kd.V_drewN | apply Kd.V_drew)); exact HL218_0.out) hb); have n4_ := am (Kd.C_below (by repeat (first | (with_reducible exact HR218_0.out) | (with_reducible refine Kd.C_alloc ?_ _) | (with_reducible refine Kd.C_drewN ?_ _) | (with_reducible refine Kd.C_drew ?_) | exact HR218_0.out)) hb); have n5_ := am (Bb6 zB hb); clear HO_0; clear HO_1; clear HO_5; clear HL218_0; clear HR218_0; clear HB; have HO_0 := n0_; have HO_1 := n1_; have HO_5 := n2_; have HL218_0 := n3_; have HR218_0 := n4_; have HB := n5_; clear n0_ n1_ n2_ n3_ n4_ n5_; (try clear hb); (try clear hb2); (try clear hk); (try clear hi)))
    go_ret
    exact ⟨_, zE, by (with_reducible repeat (first | apply Kd.V_alloc | apply Kd.V_drewN | apply Kd.V_drew)); exact Kd.V_mono HO_0.out (fun _ hk => hk.1), zB⟩
   rw [if_neg c8] at H
   have c8b0 : (t219 == 0) = false := beq_eq_false_iff_ne.mpr c8
   have c8b1 : (t219 != 0) = true := bne_iff_ne.mpr c8
   by_cases c10 : t219 < 0
   rotate_left
   ·rw [if_neg c10] at H
    have c10b0 : decide (t219 < 0) = false := decide_eq_false c10
    clear c10
    by_cases c20 : x5_1.length < 5864062014805
    rotate_left
    ·rw [if_neg c20] at H
     exact absurd H (by simp)
    rw [if_pos c20] at H
    have LMc20 := am c20
    clear c20
    obtain ⟨y232, hy232⟩ : ∃ y_ : List (List (S44)), y_ = (x5_1 ++ [rd_L4 l0 x7_1]) := ⟨_, rfl⟩
    replace H : (spec_l03Add.l0 k1 l0 l1 y232 x6_1 (wrap64 (x7_1 + 1))) = some r := by first | (rw [hy232]; with_reducible exact H) | (have H2_ := (Option.bind_some _ _).symm.trans H; rw [hy232]; with_reducible exact H2_) | (have H2_ := (Option.bind_some _ _).symm.trans H; with_reducible exact H2_) | with_reducible exact H | (rw [hy232]; exact H) | exact H
    have Ny232 := am hy232
    clear hy232
    have H' := am H
    clear H
    have p218 : 0 ≤ (x7_1 : Int) := zD
    have q218 : x7_1 < (l0.length : Int) := zD
    obtain ⟨ad218, A218_0, c218_0, e218, hx218_0, hl218_0, hi218_0⟩ := at_L4 (Kd.V_reads' HO_0.out).2.2 x7_1 p218 q218
    cases e218
    obtain ⟨ce218, hce218, hMe218, hcc218⟩ := Kd.V_get HO_0.out [] x7_1 p218 (by first | exact q218 | exact zD | (have e_ := (Kd.V_reads' HO_0.out).1; omega))
    obtain ⟨ua218_0, uc218_0, rfl, ul218_0, ge218_0⟩ := Kd.FK_slice_open hMe218
    have hv218_0 := hcc218 0 _ rfl
    rw [Nat.add_zero, show ((Kd.slice 44 k44)).sz = 1 from rfl, Nat.mul_one] at hv218_0
    replace hv218_0 := oi (hv218_0.symm.trans hx218_0)
    injection hv218_0 with hva_ hvn_ hvc_
    rw [hva_] at ge218_0
    rw [hvc_] at ul218_0
    have HL218_0 := am (show Kd.V k44 44 _ w.heap.size _ _ (rd_L4 l0 x7_1) from Kd.V_mk ul218_0 ge218_0)
    clear hva_ hvn_ hvc_ ge218_0 ul218_0
    clear hcc218 hce218
    have HR218_0 := am hi218_0
    have HC218_0 := am hl218_0
    clear hi218_0 hl218_0
    replace p218 := eq_true p218
    replace q218 := eq_true q218
    go_wp2_with (first | ((with_reducible refine gate_callee (f := 29) rfl ?_); refine goesL_ (some 21) rfl rfl Tryz.func29 (by kernel_rfl) rfl #[.slice A1 l1.length c1, .slice A218_0 (rd_L4 l0 x7_1).length c218_0] rfl zL ?_; (with_reducible refine (spec_CompareShapes.calls k1 _ _ l1 _ _ (rd_L4 l0 x7_1) t219 _ ?side1 ?side2 ?side3 ?side4 A7.out).mono ?_); (case side1 => repeat (first | exact (Kd.V_reads' HO_1.out).2.2 | (with_reducible refine Kd.C_alloc ?_ _) | (with_reducible refine Kd.C_drewN ?_ _) | (with_reducible refine Kd.C_drew ?_))); (case side2 => exact (Kd.V_reads' HO_1.out).2.1); (case side3 => repeat (first | exact (by repeat (first | (with_reducible exact HR218_0.out) | (with_reducible refine Kd.C_alloc ?_ _) | (with_reducible refine Kd.C_drewN ?_ _) | (with_reducible refine Kd.C_drew ?_) | exact HR218_0.out)) | (with_reducible refine Kd.C_alloc ?_ _) | (with_reducible refine Kd.C_drewN ?_ _) | (with_reducible refine Kd.C_drew ?_))); (case side4 => exact HC218_0.out); rintro e w21 ⟨rfl, hb⟩; refine ⟨_, rfl, ?_⟩; have n0_ := am (Kd.V_below (by (with_reducible repeat (first | apply Kd.V_alloc | apply Kd.V_drewN | apply Kd.V_drew)); exact HO_0.out) hb); have n1_ := am (Kd.V_below (by (with_reducible repeat (first | apply Kd.V_alloc | apply Kd.V_drewN | apply Kd.V_drew)); exact HO_1.out) hb); have n2_ := am (Kd.N_below (by (with_reducible repeat (first | apply Kd.N_alloc | apply Kd.N_drewN | apply Kd.N_drew)); exact HO_5.out) hb); have n3_ := am (Kd.V_below (by (with_reducible repeat (first | apply Kd.V_alloc | apply Kd.V_drewN | apply Kd.V_drew)); exact HL218_0.out) hb); have n4_ := am (Kd.C_below (by repeat (first | (with_reducible exact HR218_0.out) | (with_reducible refine Kd.C_alloc ?_ _) | (with_reducible refine Kd.C_drewN ?_ _) | (with_reducible refine Kd.C_drew ?_) | exact HR218_0.out)) hb); have n5_ := am (Bb6 zB hb); clear HO_0; clear HO_1; clear HO_5; clear HL218_0; clear HR218_0; clear HB; have HO_0 := n0_; have HO_1 := n1_; have HO_5 := n2_; have HL218_0 := n3_; have HR218_0 := n4_; have HB := n5_; clear n0_ n1_ n2_ n3_ n4_ n5_; (try clear hb); (try clear hb2); (try clear hk); (try clear hi); have p231 : 0 ≤ (x7_1 : Int) := zD; have q231 : x7_1 < (l0.length : Int) := zD; obtain ⟨ad231, A231_0, c231_0, e231, hx231_0, hl231_0, hi231_0⟩ := at_L4 (Kd.V_reads' HO_0.out).2.2 x7_1 p231 q231; obtain rfl : ad218 = ad231 := (by injection e231); obtain ⟨ce231, hce231, hMe231, hcc231⟩ := Kd.V_get HO_0.out [] x7_1 p231 (by first | exact q231 | exact zD | (have e_ := (Kd.V_reads' HO_0.out).1; omega)); obtain ⟨ua231_0, uc231_0, rfl, ul231_0, ge231_0⟩ := Kd.FK_slice_open hMe231; have hv231_0 := hcc231 0 _ rfl; rw [Nat.add_zero, show ((Kd.slice 44 k44)).sz = 1 from rfl, Nat.mul_one] at hv231_0; replace hv231_0 := oi (hv231_0.symm.trans hx231_0); injection hv231_0 with hva_ hvn_ hvc_; rw [hva_] at ge231_0; rw [hvc_] at ul231_0; have HL231_0 := am (show Kd.V k44 44 _ w.heap.size _ _ (rd_L4 l0 x7_1) from Kd.V_mk ul231_0 ge231_0); clear hva_ hvn_ hvc_ ge231_0 ul231_0; clear hcc231 hce231; have HR231_0 := am hi231_0; have HC231_0 := am hl231_0; clear hi231_0 hl231_0; replace p231 := eq_true p231; replace q231 := eq_true q231) | ((with_reducible refine gate_builtin (b := .append) (xs := #[.tmp 35, .tmp 40]) rfl ?_); at_builtin; refine Kd.N_append (Kd.slice 44 k44) (w0 := w) w.heap.size rfl (.tmp 35) (.tmp 40) 33 29 (.slice none 0 0) 24 rfl Tryz.underlying33 info29 rfl (by decide) (by omega) u5 x5_1 (rd_L4 l0 x7_1) [.slice A231_0 (rd_L4 l0 x7_1).length c231_0] (fun k_ => ((P0_ k_ ∨ P1_ k_) ∨ w.heap.size ≤ k_)) (fun k_ => ((fun k_ => ((P0_ k_ ∨ P1_ k_) ∨ w.heap.size ≤ k_))) k_ ∧ some k_ ≠ (u5 : Value).ownBlock) rfl rfl ?aP (fun _ hk => hk) ?aF ?aO ?aB ?aS ?aL ?_; (case aP => exact (Kd.FK_slice_mk (Kd.V_reads' (Kd.V_mono (ok' := (fun k_ => ((fun k_ => ((P0_ k_ ∨ P1_ k_) ∨ w.heap.size ≤ k_))) k_ ∧ some k_ ≠ (u5 : Value).ownBlock)) (HL231_0.out) (fun k_ hk => ⟨hk.1, hk.2⟩))).2.1 (Kd.V_F (Kd.V_mono (ok' := (fun k_ => ((fun k_ => ((P0_ k_ ∨ P1_ k_) ∨ w.heap.size ≤ k_))) k_ ∧ some k_ ≠ (u5 : Value).ownBlock)) (HL231_0.out) (fun k_ hk => ⟨hk.1, hk.2⟩))))); (case aB => exact zB); (case aF => exact (fun k_ hk => (.inr (Nat.le_trans (Bb5 zB) hk)))); (case aO => exact (by (with_reducible repeat (first | apply Kd.N_alloc | apply Kd.N_drewN | apply Kd.N_drew)); exact HO_5.out)); (case aS => exact (Bb5 zB)); (case aL => first | (have := LMc20.out; omega) | (have h_ := Nat.le_of_lt LMc20.out; exact h_)); intro v233 w22 ho hb hg hat; rw [← Ny232.out] at ho; have n0_ := am (Kd.V_afterv (ok := (fun k_ => ((P0_ k_ ∨ P1_ k_) ∨ w.heap.size ≤ k_))) (by (with_reducible repeat (first | apply Kd.V_alloc | apply Kd.V_drewN | apply Kd.V_drew)); exact HO_0.out) hg hat); have n1_ := am (Kd.V_afterv (ok := (fun k_ => ((P0_ k_ ∨ P1_ k_) ∨ w.heap.size ≤ k_))) (by (with_reducible repeat (first | apply Kd.V_alloc | apply Kd.V_drewN | apply Kd.V_drew)); exact HO_1.out) hg hat); have n2_ := am (Kd.V_afterv (ok := (fun k_ => ((P0_ k_ ∨ P1_ k_) ∨ w.heap.size ≤ k_))) (by (with_reducible repeat (first | apply Kd.V_alloc | apply Kd.V_drewN | apply Kd.V_drew)); exact HL218_0.out) hg hat); have n3_ := am (Kd.V_afterv (ok := (fun k_ => ((P0_ k_ ∨ P1_ k_) ∨ w.heap.size ≤ k_))) (by (with_reducible repeat (first | apply Kd.V_alloc | apply Kd.V_drewN | apply Kd.V_drew)); exact HL231_0.out) hg hat); have n4_ := am (hb); have n5_ := am (ho); clear HO_0; clear HO_1; clear HL218_0; clear HL231_0; clear HB; clear HO_5; have HO_0 := n0_; have HO_1 := n1_; have HL218_0 := n2_; have HL231_0 := n3_; have HB := n4_; have HO234 := n5_; clear n0_ n1_ n2_ n3_ n4_ n5_; clear ho hb hg hat))
    go_roundg k1
    case measure => have := HK1.out; omega
    case rel => exact ⟨(y232), (x6_1), (wrap64 (x7_1 + 1)), zS, zS, H', ⟨by have := HK1.out; omega⟩, ⟨by (with_reducible repeat (first | apply Kd.V_alloc | apply Kd.V_drewN | apply Kd.V_drew)); exact HO_0.out⟩, ⟨by (with_reducible repeat (first | apply Kd.V_alloc | apply Kd.V_drewN | apply Kd.V_drew)); exact HO_1.out⟩, ⟨by (with_reducible repeat (first | apply Kd.N_alloc | apply Kd.N_drewN | apply Kd.N_drew)); exact HO234.out⟩, ⟨zB⟩⟩
   rw [if_pos c10] at H
   have c10b0 : decide (t219 < 0) = true := decide_eq_true c10
   clear c10
   by_cases c11 : x6_1 = true
   ·subst c11
    have H1 : (if x5_1.length < 5864062014805 then (spec_l03Add.l0 k1 l0 l1 (x5_1 ++ [rd_L4 l0 x7_1]) true (wrap64 (x7_1 + 1))) else (none)) = some r := by first | (rw [if_pos rfl] at H; exact H) | rfl
    clear H
    have H := H1
    clear H1
    by_cases c12 : x5_1.length < 5864062014805
    rotate_left
    ·rw [if_neg c12] at H
     exact absurd H (by simp)
    rw [if_pos c12] at H
    have LMc12 := am c12
    clear c12
    obtain ⟨y221, hy221⟩ : ∃ y_ : List (List (S44)), y_ = (x5_1 ++ [rd_L4 l0 x7_1]) := ⟨_, rfl⟩
    replace H : (spec_l03Add.l0 k1 l0 l1 y221 true (wrap64 (x7_1 + 1))) = some r := by first | (rw [hy221]; with_reducible exact H) | (have H2_ := (Option.bind_some _ _).symm.trans H; rw [hy221]; with_reducible exact H2_) | (have H2_ := (Option.bind_some _ _).symm.trans H; with_reducible exact H2_) | with_reducible exact H | (rw [hy221]; exact H) | exact H
    have Ny221 := am hy221
    clear hy221
    have H' := am H
    clear H
    have p218 : 0 ≤ (x7_1 : Int) := zD
    have q218 : x7_1 < (l0.length : Int) := zD
    obtain ⟨ad218, A218_0, c218_0, e218, hx218_0, hl218_0, hi218_0⟩ := at_L4 (Kd.V_reads' HO_0.out).2.2 x7_1 p218 q218
    cases e218
    obtain ⟨ce218, hce218, hMe218, hcc218⟩ := Kd.V_get HO_0.out [] x7_1 p218 (by first | exact q218 | exact zD | (have e_ := (Kd.V_reads' HO_0.out).1; omega))
    obtain ⟨ua218_0, uc218_0, rfl, ul218_0, ge218_0⟩ := Kd.FK_slice_open hMe218
    have hv218_0 := hcc218 0 _ rfl
    rw [Nat.add_zero, show ((Kd.slice 44 k44)).sz = 1 from rfl, Nat.mul_one] at hv218_0
    replace hv218_0 := oi (hv218_0.symm.trans hx218_0)
    injection hv218_0 with hva_ hvn_ hvc_
    rw [hva_] at ge218_0
    rw [hvc_] at ul218_0
    have HL218_0 := am (show Kd.V k44 44 _ w.heap.size _ _ (rd_L4 l0 x7_1) from Kd.V_mk ul218_0 ge218_0)
    clear hva_ hvn_ hvc_ ge218_0 ul218_0
    clear hcc218 hce218
    have HR218_0 := am hi218_0
    have HC218_0 := am hl218_0
    clear hi218_0 hl218_0
    replace p218 := eq_true p218
    replace q218 := eq_true q218
    go_wp2_with (first | ((with_reducible refine gate_callee (f := 29) rfl ?_); refine goesL_ (some 21) rfl rfl Tryz.func29 (by kernel_rfl) rfl #[.slice A1 l1.length c1, .slice A218_0 (rd_L4 l0 x7_1).length c218_0] rfl zL ?_; (with_reducible refine (spec_CompareShapes.calls k1 _ _ l1 _ _ (rd_L4 l0 x7_1) t219 _ ?side1 ?side2 ?side3 ?side4 A7.out).mono ?_); (case side1 => repeat (first | exact (Kd.V_reads' HO_1.out).2.2 | (with_reducible refine Kd.C_alloc ?_ _) | (with_reducible refine Kd.C_drewN ?_ _) | (with_reducible refine Kd.C_drew ?_))); (case side2 => exact (Kd.V_reads' HO_1.out).2.1); (case side3 => repeat (first | exact (by repeat (first | (with_reducible exact HR218_0.out) | (with_reducible refine Kd.C_alloc ?_ _) | (with_reducible refine Kd.C_drewN ?_ _) | (with_reducible refine Kd.C_drew ?_) | exact HR218_0.out)) | (with_reducible refine Kd.C_alloc ?_ _) | (with_reducible refine Kd.C_drewN ?_ _) | (with_reducible refine Kd.C_drew ?_))); (case side4 => exact HC218_0.out); rintro e w13 ⟨rfl, hb⟩; refine ⟨_, rfl, ?_⟩; have n0_ := am (Kd.V_below (by (with_reducible repeat (first | apply Kd.V_alloc | apply Kd.V_drewN | apply Kd.V_drew)); exact HO_0.out) hb); have n1_ := am (Kd.V_below (by (with_reducible repeat (first | apply Kd.V_alloc | apply Kd.V_drewN | apply Kd.V_drew)); exact HO_1.out) hb); have n2_ := am (Kd.N_below (by (with_reducible repeat (first | apply Kd.N_alloc | apply Kd.N_drewN | apply Kd.N_drew)); exact HO_5.out) hb); have n3_ := am (Kd.V_below (by (with_reducible repeat (first | apply Kd.V_alloc | apply Kd.V_drewN | apply Kd.V_drew)); exact HL218_0.out) hb); have n4_ := am (Kd.C_below (by repeat (first | (with_reducible exact HR218_0.out) | (with_reducible refine Kd.C_alloc ?_ _) | (with_reducible refine Kd.C_drewN ?_ _) | (with_reducible refine Kd.C_drew ?_) | exact HR218_0.out)) hb); have n5_ := am (Bb6 zB hb); clear HO_0; clear HO_1; clear HO_5; clear HL218_0; clear HR218_0; clear HB; have HO_0 := n0_; have HO_1 := n1_; have HO_5 := n2_; have HL218_0 := n3_; have HR218_0 := n4_; have HB := n5_; clear n0_ n1_ n2_ n3_ n4_ n5_; (try clear hb); (try clear hb2); (try clear hk); (try clear hi); have p220 : 0 ≤ (x7_1 : Int) := zD; have q220 : x7_1 < (l0.length : Int) := zD; obtain ⟨ad220, A220_0, c220_0, e220, hx220_0, hl220_0, hi220_0⟩ := at_L4 (Kd.V_reads' HO_0.out).2.2 x7_1 p220 q220; obtain rfl : ad218 = ad220 := (by injection e220); obtain ⟨ce220, hce220, hMe220, hcc220⟩ := Kd.V_get HO_0.out [] x7_1 p220 (by first | exact q220 | exact zD | (have e_ := (Kd.V_reads' HO_0.out).1; omega)); obtain ⟨ua220_0, uc220_0, rfl, ul220_0, ge220_0⟩ := Kd.FK_slice_open hMe220; have hv220_0 := hcc220 0 _ rfl; rw [Nat.add_zero, show ((Kd.slice 44 k44)).sz = 1 from rfl, Nat.mul_one] at hv220_0; replace hv220_0 := oi (hv220_0.symm.trans hx220_0); injection hv220_0 with hva_ hvn_ hvc_; rw [hva_] at ge220_0; rw [hvc_] at ul220_0; have HL220_0 := am (show Kd.V k44 44 _ w.heap.size _ _ (rd_L4 l0 x7_1) from Kd.V_mk ul220_0 ge220_0); clear hva_ hvn_ hvc_ ge220_0 ul220_0; clear hcc220 hce220; have HR220_0 := am hi220_0; have HC220_0 := am hl220_0; clear hi220_0 hl220_0; replace p220 := eq_true p220; replace q220 := eq_true q220) | ((with_reducible refine gate_builtin (b := .append) (xs := #[.tmp 35, .tmp 40]) rfl ?_); at_builtin; refine Kd.N_append (Kd.slice 44 k44) (w0 := w) w.heap.size rfl (.tmp 35) (.tmp 40) 33 29 (.slice none 0 0) 24 rfl Tryz.underlying33 info29 rfl (by decide) (by omega) u5 x5_1 (rd_L4 l0 x7_1) [.slice A220_0 (rd_L4 l0 x7_1).length c220_0] (fun k_ => ((P0_ k_ ∨ P1_ k_) ∨ w.heap.size ≤ k_)) (fun k_ => ((fun k_ => ((P0_ k_ ∨ P1_ k_) ∨ w.heap.size ≤ k_))) k_ ∧ some k_ ≠ (u5 : Value).ownBlock) rfl rfl ?aP (fun _ hk => hk) ?aF ?aO ?aB ?aS ?aL ?_; (case aP => exact (Kd.FK_slice_mk (Kd.V_reads' (Kd.V_mono (ok' := (fun k_ => ((fun k_ => ((P0_ k_ ∨ P1_ k_) ∨ w.heap.size ≤ k_))) k_ ∧ some k_ ≠ (u5 : Value).ownBlock)) (HL220_0.out) (fun k_ hk => ⟨hk.1, hk.2⟩))).2.1 (Kd.V_F (Kd.V_mono (ok' := (fun k_ => ((fun k_ => ((P0_ k_ ∨ P1_ k_) ∨ w.heap.size ≤ k_))) k_ ∧ some k_ ≠ (u5 : Value).ownBlock)) (HL220_0.out) (fun k_ hk => ⟨hk.1, hk.2⟩))))); (case aB => exact zB); (case aF => exact (fun k_ hk => (.inr (Nat.le_trans (Bb5 zB) hk)))); (case aO => exact (by (with_reducible repeat (first | apply Kd.N_alloc | apply Kd.N_drewN | apply Kd.N_drew)); exact HO_5.out)); (case aS => exact (Bb5 zB)); (case aL => first | (have := LMc12.out; omega) | (have h_ := Nat.le_of_lt LMc12.out; exact h_)); intro v222 w14 ho hb hg hat; rw [← Ny221.out] at ho; have n0_ := am (Kd.V_afterv (ok := (fun k_ => ((P0_ k_ ∨ P1_ k_) ∨ w.heap.size ≤ k_))) (by (with_reducible repeat (first | apply Kd.V_alloc | apply Kd.V_drewN | apply Kd.V_drew)); exact HO_0.out) hg hat); have n1_ := am (Kd.V_afterv (ok := (fun k_ => ((P0_ k_ ∨ P1_ k_) ∨ w.heap.size ≤ k_))) (by (with_reducible repeat (first | apply Kd.V_alloc | apply Kd.V_drewN | apply Kd.V_drew)); exact HO_1.out) hg hat); have n2_ := am (Kd.V_afterv (ok := (fun k_ => ((P0_ k_ ∨ P1_ k_) ∨ w.heap.size ≤ k_))) (by (with_reducible repeat (first | apply Kd.V_alloc | apply Kd.V_drewN | apply Kd.V_drew)); exact HL218_0.out) hg hat); have n3_ := am (Kd.V_afterv (ok := (fun k_ => ((P0_ k_ ∨ P1_ k_) ∨ w.heap.size ≤ k_))) (by (with_reducible repeat (first | apply Kd.V_alloc | apply Kd.V_drewN | apply Kd.V_drew)); exact HL220_0.out) hg hat); have n4_ := am (hb); have n5_ := am (ho); clear HO_0; clear HO_1; clear HL218_0; clear HL220_0; clear HB; clear HO_5; have HO_0 := n0_; have HO_1 := n1_; have HL218_0 := n2_; have HL220_0 := n3_; have HB := n4_; have HO223 := n5_; clear n0_ n1_ n2_ n3_ n4_ n5_; clear ho hb hg hat))
    go_roundg k1
    case measure => have := HK1.out; omega
    case rel => exact ⟨(y221), (true), (wrap64 (x7_1 + 1)), zS, zS, H', ⟨by have := HK1.out; omega⟩, ⟨by (with_reducible repeat (first | apply Kd.V_alloc | apply Kd.V_drewN | apply Kd.V_drew)); exact HO_0.out⟩, ⟨by (with_reducible repeat (first | apply Kd.V_alloc | apply Kd.V_drewN | apply Kd.V_drew)); exact HO_1.out⟩, ⟨by (with_reducible repeat (first | apply Kd.N_alloc | apply Kd.N_drewN | apply Kd.N_drew)); exact HO223.out⟩, ⟨zB⟩⟩
   replace c11 := ef c11
   subst c11
   have H1 : (if x5_1.length < 5864062014805 then ((some (x5_1 ++ [l1] : List (List (S44)))).bind fun y224 => (if y224.length < 5864062014805 then (spec_l03Add.l0 k1 l0 l1 (y224 ++ [rd_L4 l0 x7_1]) true (wrap64 (x7_1 + 1))) else (none))) else (none)) = some r := by first | (rw [if_neg (show ¬ (false = true) by decide)] at H; exact H) | rfl
   clear H
   have H := H1
   clear H1
   by_cases c15 : x5_1.length < 5864062014805
   rotate_left
   ·rw [if_neg c15] at H
    exact absurd H (by simp)
   rw [if_pos c15] at H
   have LMc15 := am c15
   clear c15
   obtain ⟨y224, hy224⟩ : ∃ y_ : List (List (S44)), y_ = (x5_1 ++ [l1]) := ⟨_, rfl⟩
   replace H : (if y224.length < 5864062014805 then (spec_l03Add.l0 k1 l0 l1 (y224 ++ [rd_L4 l0 x7_1]) true (wrap64 (x7_1 + 1))) else (none)) = some r := by first | (rw [hy224]; with_reducible exact H) | (have H2_ := (Option.bind_some _ _).symm.trans H; rw [hy224]; with_reducible exact H2_) | (have H2_ := (Option.bind_some _ _).symm.trans H; with_reducible exact H2_) | with_reducible exact H | (rw [hy224]; exact H) | exact H
   have Ny224 := am hy224
   clear hy224
   by_cases c16 : y224.length < 5864062014805
   rotate_left
   ·rw [if_neg c16] at H
    exact absurd H (by simp)
   rw [if_pos c16] at H
   have LMc16 := am c16
   clear c16
   obtain ⟨y228, hy228⟩ : ∃ y_ : List (List (S44)), y_ = (y224 ++ [rd_L4 l0 x7_1]) := ⟨_, rfl⟩
   replace H : (spec_l03Add.l0 k1 l0 l1 y228 true (wrap64 (x7_1 + 1))) = some r := by first | (rw [hy228]; with_reducible exact H) | (have H2_ := (Option.bind_some _ _).symm.trans H; rw [hy228]; with_reducible exact H2_) | (have H2_ := (Option.bind_some _ _).symm.trans H; with_reducible exact H2_) | with_reducible exact H | (rw [hy228]; exact H) | exact H
   have Ny228 := am hy228
   clear hy228
   have H' := am H
   clear H
   have p218 : 0 ≤ (x7_1 : Int) := zD
   have q218 : x7_1 < (l0.length : Int) := zD
   obtain ⟨ad218, A218_0, c218_0, e218, hx218_0, hl218_0, hi218_0⟩ := at_L4 (Kd.V_reads' HO_0.out).2.2 x7_1 p218 q218
   cases e218
   obtain ⟨ce218, hce218, hMe218, hcc218⟩ := Kd.V_get HO_0.out [] x7_1 p218 (by first | exact q218 | exact zD | (have e_ := (Kd.V_reads' HO_0.out).1; omega))
   obtain ⟨ua218_0, uc218_0, rfl, ul218_0, ge218_0⟩ := Kd.FK_slice_open hMe218
   have hv218_0 := hcc218 0 _ rfl
   rw [Nat.add_zero, show ((Kd.slice 44 k44)).sz = 1 from rfl, Nat.mul_one] at hv218_0
   replace hv218_0 := oi (hv218_0.symm.trans hx218_0)
   injection hv218_0 with hva_ hvn_ hvc_
   rw [hva_] at ge218_0
   rw [hvc_] at ul218_0
   have HL218_0 := am (show Kd.V k44 44 _ w.heap.size _ _ (rd_L4 l0 x7_1) from Kd.V_mk ul218_0 ge218_0)
   clear hva_ hvn_ hvc_ ge218_0 ul218_0
   clear hcc218 hce218
   have HR218_0 := am hi218_0
   have HC218_0 := am hl218_0
   clear hi218_0 hl218_0
   replace p218 := eq_true p218
   replace q218 := eq_true q218
   go_wp2_with (first | ((with_reducible refine gate_callee (f := 29) rfl ?_); refine goesL_ (some 21) rfl rfl Tryz.func29 (by kernel_rfl) rfl #[.slice A1 l1.length c1, .slice A218_0 (rd_L4 l0 x7_1).length c218_0] rfl zL ?_; (with_reducible refine (spec_CompareShapes.calls k1 _ _ l1 _ _ (rd_L4 l0 x7_1) t219 _ ?side1 ?side2 ?side3 ?side4 A7.out).mono ?_); (case side1 => repeat (first | exact (Kd.V_reads' HO_1.out).2.2 | (with_reducible refine Kd.C_alloc ?_ _) | (with_reducible refine Kd.C_drewN ?_ _) | (with_reducible refine Kd.C_drew ?_))); (case side2 => exact (Kd.V_reads' HO_1.out).2.1); (case side3 => repeat (first | exact (by repeat (first | (with_reducible exact HR218_0.out) | (with_reducible refine Kd.C_alloc ?_ _) | (with_reducible refine Kd.C_drewN ?_ _) | (with_reducible refine Kd.C_drew ?_) | exact HR218_0.out)) | (with_reducible refine Kd.C_alloc ?_ _) | (with_reducible refine Kd.C_drewN ?_ _) | (with_reducible refine Kd.C_drew ?_))); (case side4 => exact HC218_0.out); rintro e w17 ⟨rfl, hb⟩; refine ⟨_, rfl, ?_⟩; have n0_ := am (Kd.V_below (by (with_reducible repeat (first | apply Kd.V_alloc | apply Kd.V_drewN | apply Kd.V_drew)); exact HO_0.out) hb); have n1_ := am (Kd.V_below (by (with_reducible repeat (first | apply Kd.V_alloc | apply Kd.V_drewN | apply Kd.V_drew)); exact HO_1.out) hb); have n2_ := am (Kd.N_below (by (with_reducible repeat (first | apply Kd.N_alloc | apply Kd.N_drewN | apply Kd.N_drew)); exact HO_5.out) hb); have n3_ := am (Kd.V_below (by (with_reducible repeat (first | apply Kd.V_alloc | apply Kd.V_drewN | apply Kd.V_drew)); exact HL218_0.out) hb); have n4_ := am (Kd.C_below (by repeat (first | (with_reducible exact HR218_0.out) | (with_reducible refine Kd.C_alloc ?_ _) | (with_reducible refine Kd.C_drewN ?_ _) | (with_reducible refine Kd.C_drew ?_) | exact HR218_0.out)) hb); have n5_ := am (Bb6 zB hb); clear HO_0; clear HO_1; clear HO_5; clear HL218_0; clear HR218_0; clear HB; have HO_0 := n0_; have HO_1 := n1_; have HO_5 := n2_; have HL218_0 := n3_; have HR218_0 := n4_; have HB := n5_; clear n0_ n1_ n2_ n3_ n4_ n5_; (try clear hb); (try clear hb2); (try clear hk); (try clear hi)) | ((with_reducible refine gate_builtin (b := .append) (xs := #[.tmp 31, .tmp 33]) rfl ?_); at_builtin; refine Kd.N_append (Kd.slice 44 k44) (w0 := w) w.heap.size rfl (.tmp 31) (.tmp 33) 33 29 (.slice none 0 0) 24 rfl Tryz.underlying33 info29 rfl (by decide) (by omega) u5 x5_1 l1 [.slice A1 l1.length c1] (fun k_ => ((P0_ k_ ∨ P1_ k_) ∨ w.heap.size ≤ k_)) (fun k_ => ((fun k_ => ((P0_ k_ ∨ P1_ k_) ∨ w.heap.size ≤ k_))) k_ ∧ some k_ ≠ (u5 : Value).ownBlock) rfl rfl ?aP (fun _ hk => hk) ?aF ?aO ?aB ?aS ?aL ?_; (case aP => exact (Kd.FK_slice_mk (Kd.V_reads' (Kd.V_mono (ok' := (fun k_ => ((fun k_ => ((P0_ k_ ∨ P1_ k_) ∨ w.heap.size ≤ k_))) k_ ∧ some k_ ≠ (u5 : Value).ownBlock)) (HO_1.out) (fun k_ hk => ⟨hk.1, hk.2⟩))).2.1 (Kd.V_F (Kd.V_mono (ok' := (fun k_ => ((fun k_ => ((P0_ k_ ∨ P1_ k_) ∨ w.heap.size ≤ k_))) k_ ∧ some k_ ≠ (u5 : Value).ownBlock)) (HO_1.out) (fun k_ hk => ⟨hk.1, hk.2⟩))))); (case aB => exact zB); (case aF => exact (fun k_ hk => (.inr (Nat.le_trans (Bb5 zB) hk)))); (case aO => exact (by (with_reducible repeat (first | apply Kd.N_alloc | apply Kd.N_drewN | apply Kd.N_drew)); exact HO_5.out)); (case aS => exact (Bb5 zB)); (case aL => first | (have := LMc15.out; omega) | (have h_ := Nat.le_of_lt LMc15.out; exact h_)); intro v225 w18 ho hb hg hat; rw [← Ny224.out] at ho; have n0_ := am (Kd.V_afterv (ok := (fun k_ => ((P0_ k_ ∨ P1_ k_) ∨ w.heap.size ≤ k_))) (by (with_reducible repeat (first | apply Kd.V_alloc | apply Kd.V_drewN | apply Kd.V_drew)); exact HO_0.out) hg hat); have n1_ := am (Kd.V_afterv (ok := (fun k_ => ((P0_ k_ ∨ P1_ k_) ∨ w.heap.size ≤ k_))) (by (with_reducible repeat (first | apply Kd.V_alloc | apply Kd.V_drewN | apply Kd.V_drew)); exact HO_1.out) hg hat); have n2_ := am (Kd.V_afterv (ok := (fun k_ => ((P0_ k_ ∨ P1_ k_) ∨ w.heap.size ≤ k_))) (by (with_reducible repeat (first | apply Kd.V_alloc | apply Kd.V_drewN | apply Kd.V_drew)); exact HL218_0.out) hg hat); have n3_ := am (hb); have n4_ := am (ho); clear HO_0; clear HO_1; clear HL218_0; clear HB; clear HO_5; have HO_0 := n0_; have HO_1 := n1_; have HL218_0 := n2_; have HB := n3_; have HO226 := n4_; clear n0_ n1_ n2_ n3_ n4_; clear ho hb hg hat; have p227 : 0 ≤ (x7_1 : Int) := zD; have q227 : x7_1 < (l0.length : Int) := zD; obtain ⟨ad227, A227_0, c227_0, e227, hx227_0, hl227_0, hi227_0⟩ := at_L4 (Kd.V_reads' HO_0.out).2.2 x7_1 p227 q227; obtain rfl : ad218 = ad227 := (by injection e227); obtain ⟨ce227, hce227, hMe227, hcc227⟩ := Kd.V_get HO_0.out [] x7_1 p227 (by first | exact q227 | exact zD | (have e_ := (Kd.V_reads' HO_0.out).1; omega)); obtain ⟨ua227_0, uc227_0, rfl, ul227_0, ge227_0⟩ := Kd.FK_slice_open hMe227; have hv227_0 := hcc227 0 _ rfl; rw [Nat.add_zero, show ((Kd.slice 44 k44)).sz = 1 from rfl, Nat.mul_one] at hv227_0; replace hv227_0 := oi (hv227_0.symm.trans hx227_0); injection hv227_0 with hva_ hvn_ hvc_; rw [hva_] at ge227_0; rw [hvc_] at ul227_0; have HL227_0 := am (show Kd.V k44 44 _ w.heap.size _ _ (rd_L4 l0 x7_1) from Kd.V_mk ul227_0 ge227_0); clear hva_ hvn_ hvc_ ge227_0 ul227_0; clear hcc227 hce227; have HR227_0 := am hi227_0; have HC227_0 := am hl227_0; clear hi227_0 hl227_0; replace p227 := eq_true p227; replace q227 := eq_true q227) | ((with_reducible refine gate_builtin (b := .append) (xs := #[.tmp 35, .tmp 40]) rfl ?_); at_builtin; refine Kd.N_append (Kd.slice 44 k44) (w0 := w) w.heap.size rfl (.tmp 35) (.tmp 40) 33 29 (.slice none 0 0) 24 rfl Tryz.underlying33 info29 rfl (by decide) (by omega) v225 y224 (rd_L4 l0 x7_1) [.slice A227_0 (rd_L4 l0 x7_1).length c227_0] (fun k_ => ((P0_ k_ ∨ P1_ k_) ∨ w.heap.size ≤ k_)) (fun k_ => ((fun k_ => ((P0_ k_ ∨ P1_ k_) ∨ w.heap.size ≤ k_))) k_ ∧ some k_ ≠ (v225 : Value).ownBlock) rfl rfl ?aP (fun _ hk => hk) ?aF ?aO ?aB ?aS ?aL ?_; (case aP => exact (Kd.FK_slice_mk (Kd.V_reads' (Kd.V_mono (ok' := (fun k_ => ((fun k_ => ((P0_ k_ ∨ P1_ k_) ∨ w.heap.size ≤ k_))) k_ ∧ some k_ ≠ (v225 : Value).ownBlock)) (HL227_0.out) (fun k_ hk => ⟨hk.1, hk.2⟩))).2.1 (Kd.V_F (Kd.V_mono (ok' := (fun k_ => ((fun k_ => ((P0_ k_ ∨ P1_ k_) ∨ w.heap.size ≤ k_))) k_ ∧ some k_ ≠ (v225 : Value).ownBlock)) (HL227_0.out) (fun k_ hk => ⟨hk.1, hk.2⟩))))); (case aB => exact zB); (case aF => exact (fun k_ hk => (.inr (Nat.le_trans (Bb5 zB) hk)))); (case aO => exact (by (with_reducible repeat (first | apply Kd.N_alloc | apply Kd.N_drewN | apply Kd.N_drew)); exact HO226.out)); (case aS => exact (Bb5 zB)); (case aL => first | (have := LMc16.out; omega) | (have h_ := Nat.le_of_lt LMc16.out; exact h_)); intro v229 w19 ho hb hg hat; rw [← Ny228.out] at ho; have n0_ := am (Kd.V_afterv (ok := (fun k_ => ((P0_ k_ ∨ P1_ k_) ∨ w.heap.size ≤ k_))) (by (with_reducible repeat (first | apply Kd.V_alloc | apply Kd.V_drewN | apply Kd.V_drew)); exact HO_0.out) hg hat); have n1_ := am (Kd.V_afterv (ok := (fun k_ => ((P0_ k_ ∨ P1_ k_) ∨ w.heap.size ≤ k_))) (by (with_reducible repeat (first | apply Kd.V_alloc | apply Kd.V_drewN | apply Kd.V_drew)); exact HO_1.out) hg hat); have n2_ := am (Kd.V_afterv (ok := (fun k_ => ((P0_ k_ ∨ P1_ k_) ∨ w.heap.size ≤ k_))) (by (with_reducible repeat (first | apply Kd.V_alloc | apply Kd.V_drewN | apply Kd.V_drew)); exact HL218_0.out) hg hat); have n3_ := am (Kd.V_afterv (ok := (fun k_ => ((P0_ k_ ∨ P1_ k_) ∨ w.heap.size ≤ k_))) (by (with_reducible repeat (first | apply Kd.V_alloc | apply Kd.V_drewN | apply Kd.V_drew)); exact HL227_0.out) hg hat); have n4_ := am (hb); have n5_ := am (ho); clear HO_0; clear HO_1; clear HL218_0; clear HL227_0; clear HB; clear HO226; have HO_0 := n0_; have HO_1 := n1_; have HL218_0 := n2_; have HL227_0 := n3_; have HB := n4_; have HO230 := n5_; clear n0_ n1_ n2_ n3_ n4_ n5_; clear ho hb hg hat))
   go_roundg k1
   case measure => have := HK1.out; omega
   case rel => exact ⟨(y228), (true), (wrap64 (x7_1 + 1)), zS, zS, H', ⟨by have := HK1.out; omega⟩, ⟨by (with_reducible repeat (first | apply Kd.V_alloc | apply Kd.V_drewN | apply Kd.V_drew)); exact HO_0.out⟩, ⟨by (with_reducible repeat (first | apply Kd.V_alloc | apply Kd.V_drewN | apply Kd.V_drew)); exact HO_1.out⟩, ⟨by (with_reducible repeat (first | apply Kd.N_alloc | apply Kd.N_drewN | apply Kd.N_drew)); exact HO230.out⟩, ⟨zB⟩⟩

/-! ### spec_l02Move: function 51 -/
def spec_l02Move.l0 : Nat → List (S44) → Int → Int → List (S44) → Int → Option ((List (S44)))
 | 0, _, _, _, _, _ => none
 | k + 1, x0, x1, x2, x7, x8 => if x8 < (x0.length : Int) then (if 0 ≤ x8 then (if x7.length < 8796093022208 then (spec_l02Move.l0 k x0 x1 x2 (x7 ++ [(⟨wrap64 (((rd_T44 x0 x8).f0) + x1), wrap64 (((rd_T44 x0 x8).f1) + x2)⟩ : S44)]) (wrap64 (x8 + 1))) else (none)) else (none)) else (some x7)
def spec_l02Move.f (k : Nat) (l0 : List (S44)) (a1 : Int) (a2 : Int) : Option ((List (S44))) := spec_l02Move.l0 k l0 a1 a2 (([] : List (S44))) 0
theorem spec_l02Move.mono_l : ∀ k, (∀ y0 y1 y2 y3 y4, LeO (spec_l02Move.l0 k y0 y1 y2 y3 y4) (spec_l02Move.l0 (k + 1) y0 y1 y2 y3 y4))
 | 0 => fun _ _ _ _ _ r h => by simp [spec_l02Move.l0] at h
 | k + 1 => by
  have ih0 := spec_l02Move.mono_l k
  ·intro y0 y1 y2 y3 y4
   unfold spec_l02Move.l0
   with_reducible repeat' first | exact ih0 _ _ _ _ _ | exact LeO.refl _ | exact LeO.none _ | refine LeO.ite ?_ ?_ | refine LeO.bind ?_ (fun _ => ?_)
theorem spec_l02Move.mono : ∀ a0 a1 a2 k, LeO (spec_l02Move.f k a0 a1 a2) (spec_l02Move.f (k + 1) a0 a1 a2) := by
 intro a0 a1 a2 k
 have ih0 := spec_l02Move.mono_l k
 unfold spec_l02Move.f
 with_reducible repeat' first | exact ih0 _ _ _ _ _ | exact LeO.refl _ | exact LeO.none _ | refine LeO.ite ?_ ?_ | refine LeO.bind ?_ (fun _ => ?_)
def spec_l02Move.T5 : Bool × List (List Nat × List Nat) := (true, [([], []), ([], []), ([], []), ([1, 2], [1, 2]), ([3], [3]), ([4], [4]), ([], []), ([5, 6], [5, 6]), ([], []), ([], []), ([8, 9], [8, 9]), ([10], [10]), ([11], [11]), ([], []), ([12, 13], [12, 13]), ([7, 14], [7, 14]), ([15], [15]), ([0, 16], [0, 16]), ([17, 17, 0, 1, 2, 3, 4, 5, 6, 7, 8, 9, 10, 11, 12, 13, 14, 15, 16, 17], [0, 17])])
def spec_l02Move.B5 : List Nat := [0, 0, 0, 6, 14, 30, 0, 126, 0, 0, 768, 1792, 3840, 0, 16128, 32766, 65534, 131071, 262143]
theorem spec_l02Move.tab5 : rtab .any (opsOf Tryz.f51 5) = spec_l02Move.T5 := by kernel_rfl
theorem spec_l02Move.bits5 : waitsOk spec_l02Move.T5.2 spec_l02Move.B5 = true := by kernel_rfl
set_option maxHeartbeats 8000000 in
set_option maxRecDepth 100000 in
theorem spec_l02Move.calls (k : Nat) (A0 : Option Addr) (c0 : Nat) (l0 : List (S44)) (a1 : Int) (a2 : Int) (r : List (S44)) (w : World) (hr0 : Kd.C k44 w A0 l0.length l0) (hc0 : l0.length ≤ c0) (h : spec_l02Move.f k l0 a1 a2 = some r) :
  Calls Tryz.prog 51 #[.slice A0 l0.length c0, .int .i64 a1, .int .i64 a2] w fun e w' => ∃ v0_ : Value, e = .returned (v0_) ∧ Kd.R k44 44 w' w.heap.size (fun _ => True) v0_ r ∧ Below w.heap.size w w' := by
 have hu44 := Tryz.underlying44
 have HR0 := am hr0
 have HC0 := am hc0
 clear hr0 hc0
 have HB := am (Below.refl w.heap.size w)
 have H : (spec_l02Move.l0 k l0 a1 a2 (([] : List (S44))) 0) = some r := h
 clear h
 obtain ⟨y235, hy235⟩ : ∃ y_ : List (S44), y_ = (([] : List (S44))) := ⟨_, rfl⟩
 replace H : (spec_l02Move.l0 k l0 a1 a2 y235 0) = some r := by first | (rw [hy235]; with_reducible exact H) | (have H2_ := (Option.bind_some _ _).symm.trans H; rw [hy235]; with_reducible exact H2_) | (have H2_ := (Option.bind_some _ _).symm.trans H; with_reducible exact H2_) | with_reducible exact H | (rw [hy235]; exact H) | exact H
 have Ny235 := am hy235
 clear hy235
 have H' := am H
 clear H
 go_enter Tryz.func51, Tryz.ntmps51
 go_wp2_with (first | ((with_reducible refine gate_dst (N := 9) rfl ?_); refine Kd.R_lit k44 _ 44 ?hg (N := 9) ?hd (xs := ([] : List (S44))) (inner := []) (ok := fun _ => True) (okp := fun _ => True) ?hr ?hp (fun _ hk => hk) trivial (Below.refl _ _) (Nat.le_refl _) (by simp) ?_; (case hd => rfl); (case hg => rfl); (case hr => first | (go_simp; done) | (go_simp; rfl)); (case hp => exact (Reps.none _ _)); intro v236 w4 ho5 hb hg_ hnew_; clear hg_ hnew_; (first | rw [← Ny235.out] at ho5 | (simp only [Int.reduceToNat] at ho5; rw [← Ny235.out] at ho5)); have n0_ := am (Kd.R_lower ho5 (Bb5 zB)); have n1_ := am (Bb6 zB hb); clear HB; have HO237 := n0_; have HB := n1_; clear n0_ n1_; clear hb ho5))
 go_loopg [7, 8] k (fun kq v7 v8 w' => ∃ (x7_1 : List (S44)) (x8_1 : Int), v8 = .int .i64 x8_1 ∧ Aside0 (spec_l02Move.l0 kq l0 a1 a2 x7_1 x8_1 = some r) ∧ Aside0 (kq ≤ k) ∧ Aside0 (Kd.R k44 44 w' w.heap.size (fun _ => True) v7 x7_1) ∧ Aside0 (Below w.heap.size w w'))
 case atStart => exact ⟨(y235), (0), zS, H', ⟨Nat.le_refl _⟩, ⟨zR HO237⟩, ⟨zB⟩⟩
 case round =>
  clear H'
  try clear p2
  try clear c5
  obtain ⟨x7_1, x8_1, rfl, HA, HK1, HO_7, HB⟩ := hrel
  cases gk with
  | zero => exact absurd HA.out (by simp [spec_l02Move.l0])
  | succ k1 =>
   have H := HA.out
   clear HA
   simp only [spec_l02Move.l0] at H
   by_cases c6 : x8_1 < (l0.length : Int)
   rotate_left
   ·rw [if_neg c6] at H
    have c6b0 : decide (x8_1 < (l0.length : Int)) = false := decide_eq_false c6
    clear c6
    obtain rfl := oi H
    go_wp2
    go_ret
    exact ⟨_, zE, by (with_reducible repeat (first | apply Kd.R_alloc | apply Kd.R_drewN | apply Kd.R_drew)); exact HO_7.out, zB⟩
   rw [if_pos c6] at H
   have c6b0 : decide (x8_1 < (l0.length : Int)) = true := decide_eq_true c6
   clear c6
   by_cases c7 : 0 ≤ x8_1
   rotate_left
   ·rw [if_neg c7] at H
    exact absurd H (by simp)
   rw [if_pos c7] at H
   have c7b0 : decide (0 ≤ x8_1) = true := decide_eq_true c7
   clear c7
   by_cases c8 : x7_1.length < 8796093022208
   rotate_left
   ·rw [if_neg c8] at H
    exact absurd H (by simp)
   rw [if_pos c8] at H
   have LMc8 := am c8
   clear c8
   obtain ⟨y240, hy240⟩ : ∃ y_ : List (S44), y_ = (x7_1 ++ [(⟨wrap64 (((rd_T44 l0 x8_1).f0) + a1), wrap64 (((rd_T44 l0 x8_1).f1) + a2)⟩ : S44)]) := ⟨_, rfl⟩
   replace H : (spec_l02Move.l0 k1 l0 a1 a2 y240 (wrap64 (x8_1 + 1))) = some r := by first | (rw [hy240]; with_reducible exact H) | (have H2_ := (Option.bind_some _ _).symm.trans H; rw [hy240]; with_reducible exact H2_) | (have H2_ := (Option.bind_some _ _).symm.trans H; with_reducible exact H2_) | with_reducible exact H | (rw [hy240]; exact H) | exact H
   have Ny240 := am hy240
   clear hy240
   have H' := am H
   clear H
   try go_wp2
   have n0_ := am (Kd.R_drew HO_7.out)
   have n1_ := am (Bb3 HB.out)
   clear HO_7
   clear HB
   have HO_7 := n0_
   have HB := n1_
   clear n0_ n1_
   have p238 : 0 ≤ (x8_1 : Int) := zD
   have q238 : x8_1 < (l0.length : Int) := zD
   obtain ⟨ad238, e238, hx238_0, hx238_1⟩ := at_T44 HR0.out x8_1 p238 q238
   have hw238_1 := hx238_1
   have hw238_0 := hx238_0
   cases e238
   replace hx238_0 := pc HB.out hx238_0
   replace hx238_1 := pc HB.out hx238_1
   replace p238 := eq_true p238
   replace q238 := eq_true q238
   have p239 : 0 ≤ (x8_1 : Int) := zD
   have q239 : x8_1 < (l0.length : Int) := zD
   obtain ⟨ad239, e239, hx239_0, hx239_1⟩ := at_T44 HR0.out x8_1 p239 q239
   have hw239_1 := hx239_1
   have hw239_0 := hx239_0
   obtain rfl : ad238 = ad239 := (by injection e239)
   replace hx239_0 := pc HB.out hx239_0
   replace hx239_1 := pc HB.out hx239_1
   replace p239 := eq_true p239
   replace q239 := eq_true q239
   refine start_ (n := 19) (S := fun w' => w'.cell? (ad238.add ((x8_1).toNat * 2)) = some (.int .i64 ((rd_T44 l0 x8_1).f0)) ∧ w'.cell? ⟨(ad238.add ((x8_1).toNat * 2)).block, (ad238.add ((x8_1).toNat * 2)).off + 1, none⟩ = some (.int .i64 ((rd_T44 l0 x8_1).f1)) ∧ w'.cell? (ad238.add ((x8_1).toNat * 2)) = some (.int .i64 ((rd_T44 l0 x8_1).f0)) ∧ w'.cell? ⟨(ad238.add ((x8_1).toNat * 2)).block, (ad238.add ((x8_1).toNat * 2)).off + 1, none⟩ = some (.int .i64 ((rd_T44 l0 x8_1).f1))) (ds := []) #[z',z',z',z',z',z',z',z',z',z',z',z',z',z',z',z',z',z',z'] (by kernel_rfl) rfl rfl ⟨(pc HB.out hw238_0), (pc HB.out hw238_1), (pc HB.out hw239_0), (pc HB.out hw239_1)⟩ (fun hHeld => ?_); refine with_tabW spec_l02Move.tab5 spec_l02Move.bits5 (fun HT_ HW_ => ?_)
   generalize wr.drew = w9 at HO_7 HB hx238_0 hx238_1 hx239_0 hx239_1 hHeld ⊢
   refine pure_ (i := 0) (N := some 16) (v := ?_) (a' := ?_) #[o',z',z',z',z',z',z',z',z',z',z',z',z',z',z',z',z',z',z'] rfl rfl zA (fun _ _ _ h => h) (Or.inl ⟨by rfl, ?_⟩) ?_ ?_
   rotate_left
   ·intro w'
    go_simp
    rfl
   rotate_left
   ·exact zP
   refine pure_ (i := 1) (N := some 17) (v := ?_) (a' := ?_) #[o',o',z',z',z',z',z',z',z',z',z',z',z',z',z',z',z',z',z'] rfl rfl zA (fun _ _ _ h => h) (Or.inl ⟨by rfl, ?_⟩) ?_ ?_
   rotate_left
   ·intro w'
    go_simp
    rfl
   rotate_left
   ·exact zP
   refine pure_ (i := 2) (N := some 18) (v := ?_) (a' := ?_) #[o',o',o',z',z',z',z',z',z',z',z',z',z',z',z',z',z',z',z'] rfl rfl zA (fun _ _ _ h => h) (Or.inl ⟨by rfl, ?_⟩) ?_ ?_
   rotate_left
   ·intro w'
    go_simp
    rfl
   rotate_left
   ·exact zP
   refine pure_ (i := 3) (N := some 19) (v := ?_) (a' := ?_) #[o',o',o',o',z',z',z',z',z',z',z',z',z',z',z',z',z',z',z'] rfl rfl zA (fun _ _ _ h => h) (Or.inl ⟨by rfl, ?_⟩) ?_ ?_
   rotate_left
   ·intro w'
    go_simp
    rfl
   rotate_left
   ·exact zP
   refine pure_ (i := 4) (N := some 20) (v := ?_) (a' := ?_) #[o',o',o',o',o',z',z',z',z',z',z',z',z',z',z',z',z',z',z'] rfl rfl zA (fun _ _ _ h => h) (Or.inl ⟨by rfl, ?_⟩) ?_ ?_
   rotate_left
   ·intro w'
    go_simp
    rfl
   rotate_left
   ·exact zP
   refine pure_ (i := 6) (N := some 22) (v := ?_) (a' := ?_) #[o',o',o',o',o',z',o',z',z',z',z',z',z',z',z',z',z',z',z'] rfl rfl zA (fun _ _ _ h => h) (Or.inl ⟨by rfl, ?_⟩) ?_ ?_
   rotate_left
   ·intro w'
    go_simp
    rfl
   rotate_left
   ·exact zP
   refine pure_ (i := 8) (N := some 24) (v := ?_) (a' := ?_) #[o',o',o',o',o',z',o',z',o',z',z',z',z',z',z',z',z',z',z'] rfl rfl zA (fun _ _ _ h => h) (Or.inl ⟨by rfl, ?_⟩) ?_ ?_
   rotate_left
   ·intro w'
    go_simp
    rfl
   rotate_left
   ·exact zP
   refine pure_ (i := 9) (N := some 25) (v := ?_) (a' := ?_) #[o',o',o',o',o',z',o',z',o',o',z',z',z',z',z',z',z',z',z'] rfl rfl zA (fun _ _ _ h => h) (Or.inl ⟨by rfl, ?_⟩) ?_ ?_
   rotate_left
   ·intro w'
    go_simp
    rfl
   rotate_left
   ·exact zP
   refine pure_ (i := 10) (N := some 26) (v := ?_) (a' := ?_) #[o',o',o',o',o',z',o',z',o',o',o',z',z',z',z',z',z',z',z'] rfl rfl zA (fun _ _ _ h => h) (Or.inl ⟨by rfl, ?_⟩) ?_ ?_
   rotate_left
   ·intro w'
    go_simp
    rfl
   rotate_left
   ·exact zP
   refine pure_ (i := 11) (N := some 27) (v := ?_) (a' := ?_) #[o',o',o',o',o',z',o',z',o',o',o',o',z',z',z',z',z',z',z'] rfl rfl zA (fun _ _ _ h => h) (Or.inl ⟨by rfl, ?_⟩) ?_ ?_
   rotate_left
   ·intro w'
    go_simp
    rfl
   rotate_left
   ·exact zP
   refine pure_ (i := 13) (N := some 29) (v := ?_) (a' := ?_) #[o',o',o',o',o',z',o',z',o',o',o',o',z',o',z',z',z',z',z'] rfl rfl zA (fun _ _ _ h => h) (Or.inl ⟨by rfl, ?_⟩) ?_ ?_
   rotate_left
   ·intro w'
    go_simp
    rfl
   rotate_left
   ·exact zP
   refine take_ (i := 5) (N := some 21) (v := ?_) (a' := ?_) #[o',o',o',o',o',o',o',z',o',o',o',o',z',o',z',z',z',z',z'] rfl rfl (take_ofW HT_.out HW_.out (by kernel_rfl)) (fun _ _ _ h => h) (Or.inl ⟨by rfl, ?_⟩) hHeld ?_ ?_
   rotate_left
   ·rintro w' ⟨s0, s1, s2, s3⟩
    go_simp
    rfl
   rotate_left
   ·exact zP
   refine pure_ (i := 7) (N := some 23) (v := ?_) (a' := ?_) #[o',o',o',o',o',o',o',o',o',o',o',o',z',o',z',z',z',z',z'] rfl rfl zA (fun _ _ _ h => h) (Or.inl ⟨by rfl, ?_⟩) ?_ ?_
   rotate_left
   ·intro w'
    go_simp
    rfl
   rotate_left
   ·exact zP
   refine take_ (i := 12) (N := some 28) (v := ?_) (a' := ?_) #[o',o',o',o',o',o',o',o',o',o',o',o',o',o',z',z',z',z',z'] rfl rfl (take_ofW HT_.out HW_.out (by kernel_rfl)) (fun _ _ _ h => h) (Or.inl ⟨by rfl, ?_⟩) hHeld ?_ ?_
   rotate_left
   ·rintro w' ⟨s0, s1, s2, s3⟩
    go_simp
    rfl
   rotate_left
   ·exact zP
   refine pure_ (i := 14) (N := some 30) (v := ?_) (a' := ?_) #[o',o',o',o',o',o',o',o',o',o',o',o',o',o',o',z',z',z',z'] rfl rfl zA (fun _ _ _ h => h) (Or.inl ⟨by rfl, ?_⟩) ?_ ?_
   rotate_left
   ·intro w'
    go_simp
    rfl
   rotate_left
   ·exact zP
   refine pure_ (i := 15) (N := some 31) (v := ?_) (a' := ?_) #[o',o',o',o',o',o',o',o',o',o',o',o',o',o',o',o',z',z',z'] rfl rfl zA (fun _ _ _ h => h) (Or.inl ⟨by rfl, ?_⟩) ?_ ?_
   rotate_left
   ·intro w'
    go_simp
    rfl
   rotate_left
   ·exact zP
   refine one_ (i := 16) (N := some 32) #[o',o',o',o',o',o',o',o',o',o',o',o',o',o',o',o',o',z',z'] rfl rfl (one_of HT_.out (by kernel_rfl)) (by decide) (fun K hK => ?_)
   refine value_ (w1 := ?_) (v := ?_) (by rfl) rfl ?_ ?_
   rotate_left 2
   ·go_simp
    constructor
    ·rfl
    rfl
   refine hK.out _ _ ⟨(World.cell?_alloc_lt _ _ _ (World.block_lt_of_cell? _ _ ((pc HB.out hw238_0)))).trans ((pc HB.out hw238_0)), (World.cell?_alloc_lt _ _ _ (World.block_lt_of_cell? _ _ ((pc HB.out hw238_1)))).trans ((pc HB.out hw238_1)), (World.cell?_alloc_lt _ _ _ (World.block_lt_of_cell? _ _ ((pc HB.out hw239_0)))).trans ((pc HB.out hw239_0)), (World.cell?_alloc_lt _ _ _ (World.block_lt_of_cell? _ _ ((pc HB.out hw239_1)))).trans ((pc HB.out hw239_1))⟩ (fun hHeld => ?_)
   clear hK K
   refine norm_ (a' := ?_) ?_ ?_
   rotate_left
   ·show Act.put _ (some 32) _ = _
    simp only [Act.put, sa, i64_w, i32_w]
    rfl
   refine one_ (i := 17) (N := some 33) #[o',o',o',o',o',o',o',o',o',o',o',o',o',o',o',o',o',o',z'] rfl rfl (one_of HT_.out (by kernel_rfl)) (by decide) (fun K hK => ?_)
   refine Kd.R_append_step k44 (w0 := w) w.heap.size (by rfl) (.tmp 16) (.tmp 32) 29 44 (.agg #[(.int .i64 0), (.int .i64 0)]) 16 rfl Tryz.underlying29 info44 rfl (by decide) (by omega) u7 x7_1 (⟨wrap64 (((rd_T44 l0 x8_1).f0) + a1), wrap64 (((rd_T44 l0 x8_1).f1) + a2)⟩ : S44) [.int .i64 (wrap64 (((rd_T44 l0 x8_1).f0) + a1)), .int .i64 (wrap64 (((rd_T44 l0 x8_1).f1) + a2))] (fun _ => True) (fun _ => False) rfl rfl ?aP (fun _ hk => hk.elim) ?aF ?aO ?aB ?aS ?aL ?_
   (case aP => exact k44_mkM _ _ _ (⟨wrap64 (((rd_T44 l0 x8_1).f0) + a1), wrap64 (((rd_T44 l0 x8_1).f1) + a2)⟩ : S44))
   (case aB => exact zB)
   (case aF => exact (fun _ _ => trivial))
   (case aO => exact (zR HO_7))
   (case aS => exact (Bb5 zB))
   (case aL => first | (have := LMc8.out; omega) | (have h_ := Nat.le_of_lt LMc8.out; exact h_))
   intro v241 w10 ho hb hg hat
   rw [← Ny240.out] at ho
   have n0_ := am (hb)
   have n1_ := am (ho)
   clear HB
   clear HO_7
   have HB := n0_
   have HO242 := n1_
   clear n0_ n1_
   clear ho hb hg hat
   refine hK.out _ _ ⟨(pc HB.out hw238_0), (pc HB.out hw238_1), (pc HB.out hw239_0), (pc HB.out hw239_1)⟩ (fun hHeld => ?_)
   clear hK K
   refine norm_ (a' := ?_) ?_ ?_
   rotate_left
   ·show Act.put _ (some 33) _ = _
    simp only [Act.put, sa, i64_w, i32_w]
    rfl
   refine pure_ (i := 18) (N := some 7) (v := ?_) (a' := ?_) #[o',o',o',o',o',o',o',o',o',o',o',o',o',o',o',o',o',o',o'] rfl rfl zA (fun _ _ _ h => h) (Or.inl ⟨by rfl, ?_⟩) ?_ ?_
   rotate_left
   ·intro w'
    go_simp
    rfl
   rotate_left
   ·exact zP
   refine done_ (done_of HT_.out (by kernel_rfl)) ?_
   try go_wp2
   go_roundg k1
   case measure => have := HK1.out; omega
   case rel => exact ⟨(y240), (wrap64 (x8_1 + 1)), zS, H', ⟨by have := HK1.out; omega⟩, ⟨zR HO242⟩, ⟨zB⟩⟩

/-! ### spec_l02Normal: function 30 -/
def spec_l02Normal.f (k : Nat) (l0 : List (S44)) : Option ((List (S44))) := (spec_l02Least.f k l0).bind fun bt243 => ((spec_l02Move.f k l0 (wrap64 (-bt243.1)) (wrap64 (-bt243.2))).bind fun t245 => (some t245))
theorem spec_l02Normal.mono : ∀ a0 k, LeO (spec_l02Normal.f k a0) (spec_l02Normal.f (k + 1) a0) := by
 intro a0 k
 unfold spec_l02Normal.f
 with_reducible repeat' first | exact spec_l02Least.mono _ _ | exact spec_l02Move.mono _ _ _ _ | exact LeO.refl _ | exact LeO.none _ | refine LeO.ite ?_ ?_ | refine LeO.bind ?_ (fun _ => ?_)
set_option maxHeartbeats 8000000 in
set_option maxRecDepth 100000 in
theorem spec_l02Normal.calls (k : Nat) (A0 : Option Addr) (c0 : Nat) (l0 : List (S44)) (r : List (S44)) (w : World) (hr0 : Kd.C k44 w A0 l0.length l0) (hc0 : l0.length ≤ c0) (h : spec_l02Normal.f k l0 = some r) :
  Calls Tryz.prog 30 #[.slice A0 l0.length c0] w fun e w' => ∃ v0_ : Value, e = .returned (v0_) ∧ Kd.R k44 44 w' w.heap.size (fun _ => True) v0_ r ∧ Below w.heap.size w w' := by
 have HR0 := am hr0
 have HC0 := am hc0
 clear hr0 hc0
 have HB := am (Below.refl w.heap.size w)
 have H : ((spec_l02Least.f k l0).bind fun bt243 => ((spec_l02Move.f k l0 (wrap64 (-bt243.1)) (wrap64 (-bt243.2))).bind fun t245 => (some t245))) = some r := h
 clear h
 replace H := ob H
 obtain ⟨⟨t243, t244⟩, A20, H⟩ := H
 (try dsimp only at H)
 have A2 := am A20
 clear A20
 replace H := ob H
 obtain ⟨t245, A30, H⟩ := H
 replace H : (some t245) = some r := H
 have A3 := am A30
 clear A30
 obtain rfl := oi H
 go_enter Tryz.func30, Tryz.ntmps30
 go_wp2_with (first | ((with_reducible refine gate_callee (f := 45) rfl ?_); refine goesL_ (some 7) rfl rfl Tryz.func45 (by kernel_rfl) rfl #[.slice A0 l0.length c0] rfl zL ?_; (with_reducible refine (spec_l02Least.calls k _ _ l0 t243 t244 _ ?side1 ?side2 A2.out).mono ?_); (case side1 => repeat (first | exact HR0.out | (with_reducible refine Kd.C_alloc ?_ _) | (with_reducible refine Kd.C_drewN ?_ _) | (with_reducible refine Kd.C_drew ?_))); (case side2 => exact HC0.out); rintro e w4 ⟨rfl, hb⟩; refine ⟨_, rfl, ?_⟩; have n0_ := am (Bb6 zB hb); clear HB; have HB := n0_; clear n0_; (try clear hb); (try clear hb2); (try clear hk); (try clear hi)) | ((with_reducible refine gate_callee (f := 51) rfl ?_); refine goesL_ (some 15) rfl rfl Tryz.func51 (by kernel_rfl) rfl #[.slice A0 l0.length c0, .int .i64 (wrap64 (-t243)), .int .i64 (wrap64 (-t244))] rfl zL ?_; (with_reducible refine (spec_l02Move.calls k _ _ l0 (wrap64 (-t243)) (wrap64 (-t244)) t245 _ ?side1 ?side2 A3.out).mono ?_); (case side1 => repeat (first | exact (Kd.C_below HR0.out HB.out) | (with_reducible refine Kd.C_alloc ?_ _) | (with_reducible refine Kd.C_drewN ?_ _) | (with_reducible refine Kd.C_drew ?_))); (case side2 => exact HC0.out); rintro e w5 ⟨v246, rfl, ho0, hb⟩; refine ⟨_, rfl, ?_⟩; have n0_ := am (Kd.R_lower ho0 (Bb5 zB)); have n1_ := am (Bb6 zB hb); clear HB; have HO247 := n0_; have HB := n1_; clear n0_ n1_; (try clear hb); (try clear hb2); (try clear hk); (try clear hi); (try clear ho0)))
 go_ret
 exact ⟨_, zE, by (with_reducible repeat (first | apply Kd.R_alloc | apply Kd.R_drewN | apply Kd.R_drew)); exact HO247.out, zB⟩

end Go.Proofs.YtbbhohaenijaoaaGreat.Q
