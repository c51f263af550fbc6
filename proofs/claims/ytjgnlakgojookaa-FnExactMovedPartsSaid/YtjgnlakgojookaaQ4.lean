/- Written by a program of this session (wip/tools/pp.py) out of the translation, with the kit's printer. -/
import Derived.Test.YtjgnlakgojookaaQ0
import Derived.Test.YtjgnlakgojookaaQ2
import Derived.Test.YtjgnlakgojookaaQ3
namespace Go.Proofs.Ytjgnlakgojookaa.Q
open Go.RowKit Go.Proofs.YtjgnlakgojookaaW.PrintWords Go.Proofs.YtjgnlakgojookaaW.PrintLast Go.Proofs.YtjgnlakgojookaaW.PrintMore
attribute [local go_sem] max2_int min2_int max_two min_two max_three min_three max_four min_four
set_option linter.unusedVariables false
set_option linter.unusedSimpArgs false

/-! ### spec_l09Solid: function 55 -/
abbrev spec_l09Solid.m0 : Array Bool := #[z',z',z',z',z',z',z',z',z',z',z',z',z',z',z',z',z',z',z',z',z',z',z']
abbrev spec_l09Solid.m1 : Array Bool := #[o',z',z',z',z',z',z',z',z',z',z',z',z',z',z',z',z',z',z',z',z',z',z']
abbrev spec_l09Solid.m2 : Array Bool := #[o',o',z',z',z',z',z',z',z',z',z',z',z',z',z',z',z',z',z',z',z',z',z']
abbrev spec_l09Solid.m3 : Array Bool := #[o',o',o',z',z',z',z',z',z',z',z',z',z',z',z',z',z',z',z',z',z',z',z']
abbrev spec_l09Solid.m4 : Array Bool := #[o',o',o',o',z',z',z',z',z',z',z',z',z',z',z',z',z',z',z',z',z',z',z']
abbrev spec_l09Solid.m5 : Array Bool := #[o',o',o',o',o',z',z',z',z',z',z',z',z',z',z',z',z',z',z',z',z',z',z']
abbrev spec_l09Solid.m6 : Array Bool := #[o',o',o',o',o',o',z',z',z',z',z',z',z',z',z',z',z',z',z',z',z',z',z']
abbrev spec_l09Solid.m7 : Array Bool := #[o',o',o',o',o',o',o',z',z',z',z',z',z',z',z',z',z',z',z',z',z',z',z']
abbrev spec_l09Solid.m8 : Array Bool := #[o',o',o',o',o',o',o',o',z',z',z',z',z',z',z',z',z',z',z',z',z',z',z']
abbrev spec_l09Solid.m9 : Array Bool := #[o',o',o',o',o',o',o',o',o',z',z',z',z',z',z',z',z',z',z',z',z',z',z']
abbrev spec_l09Solid.m10 : Array Bool := #[o',o',o',o',o',o',o',o',o',o',z',z',z',z',z',z',z',z',z',z',z',z',z']
abbrev spec_l09Solid.m11 : Array Bool := #[o',o',o',o',o',o',o',o',o',o',o',z',z',z',z',z',z',z',z',z',z',z',z']
abbrev spec_l09Solid.m12 : Array Bool := #[o',o',o',o',o',o',o',o',o',o',o',o',z',z',z',z',z',z',z',z',z',z',z']
abbrev spec_l09Solid.m13 : Array Bool := #[o',o',o',o',o',o',o',o',o',o',o',o',o',z',z',z',z',z',z',z',z',z',z']
abbrev spec_l09Solid.m14 : Array Bool := #[o',o',o',o',o',o',o',o',o',o',o',o',o',o',z',z',z',z',z',z',z',z',z']
abbrev spec_l09Solid.m15 : Array Bool := #[o',o',o',o',o',o',o',o',o',o',o',o',o',o',z',o',z',z',z',z',z',z',z']
abbrev spec_l09Solid.m16 : Array Bool := #[o',o',o',o',o',o',o',o',o',o',o',o',o',o',z',o',o',z',z',z',z',z',z']
abbrev spec_l09Solid.m17 : Array Bool := #[o',o',o',o',o',o',o',o',o',o',o',o',o',o',z',o',o',o',z',z',z',z',z']
abbrev spec_l09Solid.m18 : Array Bool := #[o',o',o',o',o',o',o',o',o',o',o',o',o',o',o',z',z',z',z',z',z',z',z']
abbrev spec_l09Solid.m19 : Array Bool := #[o',o',o',o',o',o',o',o',o',o',o',o',o',o',o',o',z',z',z',z',z',z',z']
abbrev spec_l09Solid.m20 : Array Bool := #[o',o',o',o',o',o',o',o',o',o',o',o',o',o',o',o',o',z',z',z',z',z',z']
abbrev spec_l09Solid.m21 : Array Bool := #[o',o',o',o',o',o',o',o',o',o',o',o',o',o',o',o',o',o',z',z',z',z',z']
abbrev spec_l09Solid.m22 : Array Bool := #[o',o',o',o',o',o',o',o',o',o',o',o',o',o',o',o',o',o',o',z',z',z',z']
abbrev spec_l09Solid.m23 : Array Bool := #[o',o',o',o',o',o',o',o',o',o',o',o',o',o',o',o',o',o',o',o',z',z',z']
abbrev spec_l09Solid.m24 : Array Bool := #[o',o',o',o',o',o',o',o',o',o',o',o',o',o',o',o',o',o',o',o',o',z',z']
abbrev spec_l09Solid.m25 : Array Bool := #[o',o',o',o',o',o',o',o',o',o',o',o',o',o',o',o',o',o',o',o',o',o',z']
abbrev spec_l09Solid.m26 : Array Bool := #[o',o',o',o',o',o',o',o',o',o',o',o',o',o',o',o',o',o',o',o',o',o',o']
def spec_l09Solid.l0 : Nat → List (S71) → Int → Option (Bool)
 | 0, _, _ => none
 | k + 1, x0, x3 => if x3 < (x0.length : Int) then (if 0 ≤ x3 then ((spec_l09Cube.f ((rd_T71 x0 x3).f0) ((rd_T71 x0 x3).f1) ((rd_T71 x0 x3).f2)).bind fun t115 => (if t115 = true then (if x3 > 0 then (if 0 ≤ (wrap64 (x3 - 1)) then (if (wrap64 (x3 - 1)) < (x0.length : Int) then ((spec_l09Less.f ((rd_T71 x0 (wrap64 (x3 - 1))).f0) ((rd_T71 x0 (wrap64 (x3 - 1))).f1) ((rd_T71 x0 (wrap64 (x3 - 1))).f2) ((rd_T71 x0 x3).f0) ((rd_T71 x0 x3).f1) ((rd_T71 x0 x3).f2)).bind fun t118 => (if t118 = true then (spec_l09Solid.l0 k x0 (wrap64 (x3 + 1))) else (some false))) else (none)) else (none)) else (spec_l09Solid.l0 k x0 (wrap64 (x3 + 1)))) else (some false))) else (none)) else ((spec_l01In.f (x0.length : Int) 1 24).bind fun t113 => (some t113))
def spec_l09Solid.f (k : Nat) (l0 : List (S71)) : Option (Bool) := spec_l09Solid.l0 k l0 0
theorem spec_l09Solid.mono_l : ∀ k, (∀ y0 y1, LeO (spec_l09Solid.l0 k y0 y1) (spec_l09Solid.l0 (k + 1) y0 y1))
 | 0 => fun _ _ r h => by simp [spec_l09Solid.l0] at h
 | k + 1 => by
  have ih0 := spec_l09Solid.mono_l k
  ·intro y0 y1
   unfold spec_l09Solid.l0
   repeat' first
   | (with_reducible exact ih0 _ _)
   | (with_reducible exact LeO.refl _)
   | (with_reducible exact LeO.none _)
   | (with_reducible refine LeO.ite ?_ ?_)
   | (with_reducible refine LeO.bind ?_ (fun _ => ?_))
   | exact ih0 _ _
   | exact LeO.none _
   | refine LeO.ite ?_ ?_
   | refine LeO.bind ?_ (fun _ => ?_)
theorem spec_l09Solid.mono : ∀ a0 k, LeO (spec_l09Solid.f k a0) (spec_l09Solid.f (k + 1) a0) := by
 intro a0 k
 have ih0 := spec_l09Solid.mono_l k
 unfold spec_l09Solid.f
 repeat' first
   | (with_reducible exact ih0 _ _)
   | (with_reducible exact LeO.refl _)
   | (with_reducible exact LeO.none _)
   | (with_reducible refine LeO.ite ?_ ?_)
   | (with_reducible refine LeO.bind ?_ (fun _ => ?_))
   | exact ih0 _ _
   | exact LeO.none _
   | refine LeO.ite ?_ ?_
   | refine LeO.bind ?_ (fun _ => ?_)
def spec_l09Solid.T4 : Bool × List (List Nat × List Nat) := (true, [([], []), ([], []), ([0, 1], [0, 1]), ([2], [2]), ([3], [3]), ([4], [4]), ([5, 4], [5]), ([6], [6]), ([7, 6], [6, 7]), ([8, 6, 6], [6, 8]), ([9], [9]), ([9], [9]), ([11, 9], [9, 11]), ([10, 12, 9], [9, 10, 12]), ([13, 9], [9, 13]), ([9], [9]), ([9], [9]), ([15, 16, 9], [9, 15, 16]), ([17, 9], [9, 17]), ([14, 18, 9, 9], [9, 14, 18]), ([19, 9], [9, 19]), ([9, 20, 6], [6, 9, 20]), ([6, 21], [6, 21])])
def spec_l09Solid.B4 : List Nat := [0, 0, 3, 7, 15, 31, 63, 127, 255, 511, 1023, 1023, 3071, 8191, 16383, 1023, 1023, 99327, 230399, 524287, 1048575, 2097151, 4194303]
theorem spec_l09Solid.tab4 : rtab .any (opsOf Try.f55 4) = spec_l09Solid.T4 := by kernel_rfl
theorem spec_l09Solid.bits4 : waitsOk spec_l09Solid.T4.2 spec_l09Solid.B4 = true := by kernel_rfl
set_option maxHeartbeats 8000000 in
set_option maxRecDepth 100000 in
theorem spec_l09Solid.calls (k : Nat) (A0 : Option Addr) (c0 : Nat) (l0 : List (S71)) (r : Bool) (w : World) (hr0 : Kd.C k71 w A0 l0.length l0) (hc0 : l0.length ≤ c0) (h : spec_l09Solid.f k l0 = some r) :
  Calls Try.prog 55 #[.slice A0 l0.length c0] w fun e w' => e = .returned (.bool r) ∧ Below w.heap.size w w' := by
 have hu71 := Try.underlying71
 have HR0 := am hr0
 have HC0 := am hc0
 clear hr0 hc0
 have HB := am (Below.refl w.heap.size w)
 have H : (spec_l09Solid.l0 k l0 0) = some r := h
 clear h
 have H' := am H
 clear H
 go_enter Try.func55, Try.ntmps55
 go_wp2
 go_loopg [3] k (fun kq v3 w' => ∃ (x3_1 : Int), v3 = .int .i64 x3_1 ∧ Aside0 (spec_l09Solid.l0 kq l0 x3_1 = some r) ∧ Aside0 (kq ≤ k) ∧ Aside0 (Below w.heap.size w w'))
 case atStart => exact ⟨(0), zS, H', ⟨Nat.le_refl _⟩, ⟨zB⟩⟩
 case round =>
  clear H'
  obtain ⟨x3_1, rfl, HA, HK1, HB⟩ := hrel
  cases gk with
  | zero => exact absurd HA.out (by simp [spec_l09Solid.l0])
  | succ k1 =>
   have H := HA.out
   clear HA
   simp only [spec_l09Solid.l0] at H
   by_cases c2 : x3_1 < (l0.length : Int)
   rotate_left
   ·rw [if_neg c2] at H
    have c2b0 : decide (x3_1 < (l0.length : Int)) = false := decide_eq_false c2
    clear c2
    replace H := ob H
    obtain ⟨t113, A220, H⟩ := H
    replace H : (some t113) = some r := H
    have A22 := am A220
    clear A220
    obtain rfl := oi H
    go_wp2_with (first | ((with_reducible refine gate_callee (f := 54) rfl ?_); refine goesL_ (some 35) rfl rfl Try.func54 (by kernel_rfl) rfl #[.int .i64 (l0.length : Int), .int .i64 1, .int .i64 24] rfl zL ?_; (with_reducible refine (spec_l01In.calls (l0.length : Int) 1 24 t113 _ A22.out).mono ?_); rintro e w' ⟨rfl, ⟨nd, rfl⟩⟩; refine ⟨_, rfl, ?_⟩))
    go_ret
    exact ⟨zE, zB⟩
   rw [if_pos c2] at H
   have c2b0 : decide (x3_1 < (l0.length : Int)) = true := decide_eq_true c2
   clear c2
   by_cases c3 : 0 ≤ x3_1
   rotate_left
   ·rw [if_neg c3] at H
    exact absurd H (by simp)
   rw [if_pos c3] at H
   have c3b0 : decide (0 ≤ x3_1) = true := decide_eq_true c3
   clear c3
   replace H := ob H
   obtain ⟨t115, A40, H⟩ := H
   (try dsimp only at H)
   have A4 := am A40
   clear A40
   by_cases c5 : t115 = true
   rotate_left
   ·replace c5 := ef c5
    subst c5
    have H1 : (some false) = some r := by first | (rw [if_neg (show ¬ (false = true) by decide)] at H; exact H) | rfl
    clear H
    have H := H1
    clear H1
    obtain rfl := oi H
    try go_wp2
    have n0_ := am (Bb3 HB.out)
    clear HB
    have HB := n0_
    clear n0_
    have p114 : 0 ≤ (x3_1 : Int) := zD
    have q114 : x3_1 < (l0.length : Int) := zD
    obtain ⟨ad114, e114, hx114_0, hx114_1, hx114_2⟩ := at_T71 HR0.out x3_1 p114 q114
    have hw114_2 := hx114_2
    have hw114_1 := hx114_1
    have hw114_0 := hx114_0
    cases e114
    replace hx114_0 := pc HB.out hx114_0
    replace hx114_1 := pc HB.out hx114_1
    replace hx114_2 := pc HB.out hx114_2
    replace p114 := eq_true p114
    replace q114 := eq_true q114
    refine start_ (n := 23) (S := fun w' => w'.cell? (ad114.add ((x3_1).toNat * 3)) = some (.int .i64 ((rd_T71 l0 x3_1).f0)) ∧ w'.cell? ⟨(ad114.add ((x3_1).toNat * 3)).block, (ad114.add ((x3_1).toNat * 3)).off + 1, none⟩ = some (.int .i64 ((rd_T71 l0 x3_1).f1)) ∧ w'.cell? ⟨(ad114.add ((x3_1).toNat * 3)).block, (ad114.add ((x3_1).toNat * 3)).off + 2, none⟩ = some (.int .i64 ((rd_T71 l0 x3_1).f2))) (ds := []) spec_l09Solid.m0 (by kernel_rfl) rfl rfl ⟨(pc HB.out hw114_0), (pc HB.out hw114_1), (pc HB.out hw114_2)⟩ (fun hHeld => ?_); refine with_tabW spec_l09Solid.tab4 spec_l09Solid.bits4 (fun HT_ HW_ => ?_)
    generalize wr.drew = w20 at HB hx114_0 hx114_1 hx114_2 hHeld ⊢
    refine pure_ (i := 0) (N := some 10) (v := ?_) (a' := ?_) spec_l09Solid.m1 rfl rfl zA (fun _ _ _ h => h) (Or.inl ⟨by rfl, ?_⟩) ?_ ?_
    rotate_left
    ·intro w'
     go_simp
     with_reducible rfl
    rotate_left
    ·exact zP
    refine pure_ (i := 1) (N := some 11) (v := ?_) (a' := ?_) spec_l09Solid.m2 rfl rfl zA (fun _ _ _ h => h) (Or.inl ⟨by rfl, ?_⟩) ?_ ?_
    rotate_left
    ·intro w'
     go_simp
     with_reducible rfl
    rotate_left
    ·exact zP
    refine pure_ (i := 2) (N := some 12) (v := ?_) (a' := ?_) spec_l09Solid.m3 rfl rfl zA (fun _ _ _ h => h) (Or.inl ⟨by rfl, ?_⟩) ?_ ?_
    rotate_left
    ·intro w'
     go_simp
     with_reducible rfl
    rotate_left
    ·exact zP
    refine take_ (i := 3) (N := some 13) (v := ?_) (a' := ?_) spec_l09Solid.m4 rfl rfl (take_ofW HT_.out HW_.out (by kernel_rfl)) (fun _ _ _ h => h) (Or.inl ⟨by rfl, ?_⟩) hHeld ?_ ?_
    rotate_left
    ·rintro w' ⟨s0, s1, s2⟩
     go_simp
     with_reducible rfl
    rotate_left
    ·exact zP
    refine one_ (i := 4) (N := some 14) spec_l09Solid.m5 rfl rfl (one_of HT_.out (by kernel_rfl)) (by decide) (fun K hK => ?_)
    refine goes_ Try.func89 (by kernel_rfl) rfl #[.agg #[.int .i64 ((rd_T71 l0 x3_1).f0), .int .i64 ((rd_T71 l0 x3_1).f1), .int .i64 ((rd_T71 l0 x3_1).f2)]] (by rfl) rfl rfl zL ?_
    with_reducible refine (spec_l09Cube.calls ((rd_T71 l0 x3_1).f0) ((rd_T71 l0 x3_1).f1) ((rd_T71 l0 x3_1).f2) false _ A4.out).mono ?_
    rintro e w21 ⟨rfl, hb⟩
    refine ⟨_, rfl, ?_⟩
    have n0_ := am (Bb6 zB hb)
    clear HB
    have HB := n0_
    clear n0_
    (try clear hb)
    (try clear hb2)
    (try clear hk)
    (try clear hi)
    refine hK.out _ _ ⟨(pc HB.out hw114_0), (pc HB.out hw114_1), (pc HB.out hw114_2)⟩ (fun hHeld => ?_)
    clear hK K
    refine norm_ (a' := ?_) ?_ ?_
    rotate_left
    ·show Act.put _ (some 14) _ = _
     simp only [Act.put, sa, i64_w, i32_w]
     rfl
    refine pure_ (i := 5) (N := some 15) (v := ?_) (a' := ?_) spec_l09Solid.m6 rfl rfl zA (fun _ _ _ h => h) (Or.inl ⟨by rfl, ?_⟩) ?_ ?_
    rotate_left
    ·intro w'
     go_simp
     with_reducible rfl
    rotate_left
    ·exact zP
    refine pure_ (i := 6) (N := some 16) (v := ?_) (a' := ?_) spec_l09Solid.m7 rfl rfl zA (fun _ _ _ h => h) (Or.inl ⟨by rfl, ?_⟩) ?_ ?_
    rotate_left
    ·intro w'
     go_simp
     with_reducible rfl
    rotate_left
    ·exact zP
    refine pure_ (i := 7) (N := some 17) (v := undef) (a' := ?_) spec_l09Solid.m8 rfl rfl zA (fun _ _ _ h => h) (Or.inr ⟨by rfl, rfl⟩) ?_ ?_
    rotate_left
    ·exact zP
    refine pure_ (i := 8) (N := some 18) (v := undef) (a' := ?_) spec_l09Solid.m9 rfl rfl zA (fun _ _ _ h => h) (Or.inr ⟨by rfl, rfl⟩) ?_ ?_
    rotate_left
    ·exact zP
    refine pure_ (i := 9) (N := some 19) (v := undef) (a' := ?_) spec_l09Solid.m10 rfl rfl zA (fun _ _ _ h => h) (Or.inr ⟨by rfl, rfl⟩) ?_ ?_
    rotate_left
    ·exact zP
    refine pure_ (i := 10) (N := some 20) (v := undef) (a' := ?_) spec_l09Solid.m11 rfl rfl zA (fun _ _ _ h => h) (Or.inr ⟨by rfl, rfl⟩) ?_ ?_
    rotate_left
    ·exact zP
    refine pure_ (i := 11) (N := some 21) (v := undef) (a' := ?_) spec_l09Solid.m12 rfl rfl zA (fun _ _ _ h => h) (Or.inr ⟨by rfl, rfl⟩) ?_ ?_
    rotate_left
    ·exact zP
    refine pure_ (i := 12) (N := some 22) (v := undef) (a' := ?_) spec_l09Solid.m13 rfl rfl zA (fun _ _ _ h => h) (Or.inr ⟨by rfl, rfl⟩) ?_ ?_
    rotate_left
    ·exact zP
    refine pure_ (i := 13) (N := some 23) (v := undef) (a' := ?_) spec_l09Solid.m14 rfl rfl zA (fun _ _ _ h => h) (Or.inr ⟨by rfl, rfl⟩) ?_ ?_
    rotate_left
    ·exact zP
    refine pure_ (i := 14) (N := some 24) (v := undef) (a' := ?_) spec_l09Solid.m18 rfl rfl zA (fun _ _ _ h => h) (Or.inr ⟨by rfl, rfl⟩) ?_ ?_
    rotate_left
    ·exact zP
    refine pure_ (i := 15) (N := some 25) (v := undef) (a' := ?_) spec_l09Solid.m19 rfl rfl zA (fun _ _ _ h => h) (Or.inr ⟨by rfl, rfl⟩) ?_ ?_
    rotate_left
    ·exact zP
    refine pure_ (i := 16) (N := some 26) (v := undef) (a' := ?_) spec_l09Solid.m20 rfl rfl zA (fun _ _ _ h => h) (Or.inr ⟨by rfl, rfl⟩) ?_ ?_
    rotate_left
    ·exact zP
    refine pure_ (i := 17) (N := some 27) (v := undef) (a' := ?_) spec_l09Solid.m21 rfl rfl zA (fun _ _ _ h => h) (Or.inr ⟨by rfl, rfl⟩) ?_ ?_
    rotate_left
    ·exact zP
    refine pure_ (i := 18) (N := some 28) (v := undef) (a' := ?_) spec_l09Solid.m22 rfl rfl zA (fun _ _ _ h => h) (Or.inr ⟨by rfl, rfl⟩) ?_ ?_
    rotate_left
    ·exact zP
    refine pure_ (i := 19) (N := some 29) (v := undef) (a' := ?_) spec_l09Solid.m23 rfl rfl zA (fun _ _ _ h => h) (Or.inr ⟨by rfl, rfl⟩) ?_ ?_
    rotate_left
    ·exact zP
    refine pure_ (i := 20) (N := some 30) (v := undef) (a' := ?_) spec_l09Solid.m24 rfl rfl zA (fun _ _ _ h => h) (Or.inr ⟨by rfl, rfl⟩) ?_ ?_
    rotate_left
    ·exact zP
    refine pure_ (i := 21) (N := some 31) (v := undef) (a' := ?_) spec_l09Solid.m25 rfl rfl zA (fun _ _ _ h => h) (Or.inr ⟨by rfl, rfl⟩) ?_ ?_
    rotate_left
    ·exact zP
    refine pure_ (i := 22) (N := some 32) (v := ?_) (a' := ?_) spec_l09Solid.m26 rfl rfl zA (fun _ _ _ h => h) (Or.inl ⟨by rfl, ?_⟩) ?_ ?_
    rotate_left
    ·intro w'
     go_simp
     with_reducible rfl
    rotate_left
    ·exact zP
    refine done_ (done_of HT_.out (by kernel_rfl)) ?_
    try go_wp2
    go_ret
    exact ⟨zE, zB⟩
   subst c5
   have H1 : (if x3_1 > 0 then (if 0 ≤ (wrap64 (x3_1 - 1)) then (if (wrap64 (x3_1 - 1)) < (l0.length : Int) then ((spec_l09Less.f ((rd_T71 l0 (wrap64 (x3_1 - 1))).f0) ((rd_T71 l0 (wrap64 (x3_1 - 1))).f1) ((rd_T71 l0 (wrap64 (x3_1 - 1))).f2) ((rd_T71 l0 x3_1).f0) ((rd_T71 l0 x3_1).f1) ((rd_T71 l0 x3_1).f2)).bind fun t118 => (if t118 = true then (spec_l09Solid.l0 k1 l0 (wrap64 (x3_1 + 1))) else (some false))) else (none)) else (none)) else (spec_l09Solid.l0 k1 l0 (wrap64 (x3_1 + 1)))) = some r := by first | (rw [if_pos rfl] at H; exact H) | rfl
   clear H
   have H := H1
   clear H1
   by_cases c6 : x3_1 > 0
   rotate_left
   ·rw [if_neg c6] at H
    have c6b0 : decide (0 < x3_1) = false := decide_eq_false c6
    clear c6
    have H' := am H
    clear H
    try go_wp2
    have n0_ := am (Bb3 HB.out)
    clear HB
    have HB := n0_
    clear n0_
    have p114 : 0 ≤ (x3_1 : Int) := zD
    have q114 : x3_1 < (l0.length : Int) := zD
    obtain ⟨ad114, e114, hx114_0, hx114_1, hx114_2⟩ := at_T71 HR0.out x3_1 p114 q114
    have hw114_2 := hx114_2
    have hw114_1 := hx114_1
    have hw114_0 := hx114_0
    cases e114
    replace hx114_0 := pc HB.out hx114_0
    replace hx114_1 := pc HB.out hx114_1
    replace hx114_2 := pc HB.out hx114_2
    replace p114 := eq_true p114
    replace q114 := eq_true q114
    refine start_ (n := 23) (S := fun w' => w'.cell? (ad114.add ((x3_1).toNat * 3)) = some (.int .i64 ((rd_T71 l0 x3_1).f0)) ∧ w'.cell? ⟨(ad114.add ((x3_1).toNat * 3)).block, (ad114.add ((x3_1).toNat * 3)).off + 1, none⟩ = some (.int .i64 ((rd_T71 l0 x3_1).f1)) ∧ w'.cell? ⟨(ad114.add ((x3_1).toNat * 3)).block, (ad114.add ((x3_1).toNat * 3)).off + 2, none⟩ = some (.int .i64 ((rd_T71 l0 x3_1).f2))) (ds := []) spec_l09Solid.m0 (by kernel_rfl) rfl rfl ⟨(pc HB.out hw114_0), (pc HB.out hw114_1), (pc HB.out hw114_2)⟩ (fun hHeld => ?_); refine with_tabW spec_l09Solid.tab4 spec_l09Solid.bits4 (fun HT_ HW_ => ?_)
    generalize wr.drew = w18 at HB hx114_0 hx114_1 hx114_2 hHeld ⊢
    refine pure_ (i := 0) (N := some 10) (v := ?_) (a' := ?_) spec_l09Solid.m1 rfl rfl zA (fun _ _ _ h => h) (Or.inl ⟨by rfl, ?_⟩) ?_ ?_
    rotate_left
    ·intro w'
     go_simp
     with_reducible rfl
    rotate_left
    ·exact zP
    refine pure_ (i := 1) (N := some 11) (v := ?_) (a' := ?_) spec_l09Solid.m2 rfl rfl zA (fun _ _ _ h => h) (Or.inl ⟨by rfl, ?_⟩) ?_ ?_
    rotate_left
    ·intro w'
     go_simp
     with_reducible rfl
    rotate_left
    ·exact zP
    refine pure_ (i := 2) (N := some 12) (v := ?_) (a' := ?_) spec_l09Solid.m3 rfl rfl zA (fun _ _ _ h => h) (Or.inl ⟨by rfl, ?_⟩) ?_ ?_
    rotate_left
    ·intro w'
     go_simp
     with_reducible rfl
    rotate_left
    ·exact zP
    refine take_ (i := 3) (N := some 13) (v := ?_) (a' := ?_) spec_l09Solid.m4 rfl rfl (take_ofW HT_.out HW_.out (by kernel_rfl)) (fun _ _ _ h => h) (Or.inl ⟨by rfl, ?_⟩) hHeld ?_ ?_
    rotate_left
    ·rintro w' ⟨s0, s1, s2⟩
     go_simp
     with_reducible rfl
    rotate_left
    ·exact zP
    refine one_ (i := 4) (N := some 14) spec_l09Solid.m5 rfl rfl (one_of HT_.out (by kernel_rfl)) (by decide) (fun K hK => ?_)
    refine goes_ Try.func89 (by kernel_rfl) rfl #[.agg #[.int .i64 ((rd_T71 l0 x3_1).f0), .int .i64 ((rd_T71 l0 x3_1).f1), .int .i64 ((rd_T71 l0 x3_1).f2)]] (by rfl) rfl rfl zL ?_
    with_reducible refine (spec_l09Cube.calls ((rd_T71 l0 x3_1).f0) ((rd_T71 l0 x3_1).f1) ((rd_T71 l0 x3_1).f2) true _ A4.out).mono ?_
    rintro e w19 ⟨rfl, hb⟩
    refine ⟨_, rfl, ?_⟩
    have n0_ := am (Bb6 zB hb)
    clear HB
    have HB := n0_
    clear n0_
    (try clear hb)
    (try clear hb2)
    (try clear hk)
    (try clear hi)
    refine hK.out _ _ ⟨(pc HB.out hw114_0), (pc HB.out hw114_1), (pc HB.out hw114_2)⟩ (fun hHeld => ?_)
    clear hK K
    refine norm_ (a' := ?_) ?_ ?_
    rotate_left
    ·show Act.put _ (some 14) _ = _
     simp only [Act.put, sa, i64_w, i32_w]
     rfl
    refine pure_ (i := 5) (N := some 15) (v := ?_) (a' := ?_) spec_l09Solid.m6 rfl rfl zA (fun _ _ _ h => h) (Or.inl ⟨by rfl, ?_⟩) ?_ ?_
    rotate_left
    ·intro w'
     go_simp
     with_reducible rfl
    rotate_left
    ·exact zP
    refine pure_ (i := 6) (N := some 16) (v := ?_) (a' := ?_) spec_l09Solid.m7 rfl rfl zA (fun _ _ _ h => h) (Or.inl ⟨by rfl, ?_⟩) ?_ ?_
    rotate_left
    ·intro w'
     go_simp
     with_reducible rfl
    rotate_left
    ·exact zP
    refine pure_ (i := 7) (N := some 17) (v := ?_) (a' := ?_) spec_l09Solid.m8 rfl rfl zA (fun _ _ _ h => h) (Or.inl ⟨by rfl, ?_⟩) ?_ ?_
    rotate_left
    ·intro w'
     go_simp
     with_reducible rfl
    rotate_left
    ·exact zP
    refine pure_ (i := 8) (N := some 18) (v := ?_) (a' := ?_) spec_l09Solid.m9 rfl rfl zA (fun _ _ _ h => h) (Or.inl ⟨by rfl, ?_⟩) ?_ ?_
    rotate_left
    ·intro w'
     go_simp
     with_reducible rfl
    rotate_left
    ·exact zP
    refine pure_ (i := 9) (N := some 19) (v := ?_) (a' := ?_) spec_l09Solid.m10 rfl rfl zA (fun _ _ _ h => h) (Or.inl ⟨by rfl, ?_⟩) ?_ ?_
    rotate_left
    ·intro w'
     go_simp
     with_reducible rfl
    rotate_left
    ·exact zP
    refine pure_ (i := 10) (N := some 20) (v := undef) (a' := ?_) spec_l09Solid.m11 rfl rfl zA (fun _ _ _ h => h) (Or.inr ⟨by rfl, rfl⟩) ?_ ?_
    rotate_left
    ·exact zP
    refine pure_ (i := 11) (N := some 21) (v := undef) (a' := ?_) spec_l09Solid.m12 rfl rfl zA (fun _ _ _ h => h) (Or.inr ⟨by rfl, rfl⟩) ?_ ?_
    rotate_left
    ·exact zP
    refine pure_ (i := 12) (N := some 22) (v := undef) (a' := ?_) spec_l09Solid.m13 rfl rfl zA (fun _ _ _ h => h) (Or.inr ⟨by rfl, rfl⟩) ?_ ?_
    rotate_left
    ·exact zP
    refine pure_ (i := 13) (N := some 23) (v := undef) (a' := ?_) spec_l09Solid.m14 rfl rfl zA (fun _ _ _ h => h) (Or.inr ⟨by rfl, rfl⟩) ?_ ?_
    rotate_left
    ·exact zP
    refine pure_ (i := 14) (N := some 24) (v := undef) (a' := ?_) spec_l09Solid.m18 rfl rfl zA (fun _ _ _ h => h) (Or.inr ⟨by rfl, rfl⟩) ?_ ?_
    rotate_left
    ·exact zP
    refine pure_ (i := 15) (N := some 25) (v := undef) (a' := ?_) spec_l09Solid.m19 rfl rfl zA (fun _ _ _ h => h) (Or.inr ⟨by rfl, rfl⟩) ?_ ?_
    rotate_left
    ·exact zP
    refine pure_ (i := 16) (N := some 26) (v := undef) (a' := ?_) spec_l09Solid.m20 rfl rfl zA (fun _ _ _ h => h) (Or.inr ⟨by rfl, rfl⟩) ?_ ?_
    rotate_left
    ·exact zP
    refine pure_ (i := 17) (N := some 27) (v := undef) (a' := ?_) spec_l09Solid.m21 rfl rfl zA (fun _ _ _ h => h) (Or.inr ⟨by rfl, rfl⟩) ?_ ?_
    rotate_left
    ·exact zP
    refine pure_ (i := 18) (N := some 28) (v := undef) (a' := ?_) spec_l09Solid.m22 rfl rfl zA (fun _ _ _ h => h) (Or.inr ⟨by rfl, rfl⟩) ?_ ?_
    rotate_left
    ·exact zP
    refine pure_ (i := 19) (N := some 29) (v := undef) (a' := ?_) spec_l09Solid.m23 rfl rfl zA (fun _ _ _ h => h) (Or.inr ⟨by rfl, rfl⟩) ?_ ?_
    rotate_left
    ·exact zP
    refine pure_ (i := 20) (N := some 30) (v := undef) (a' := ?_) spec_l09Solid.m24 rfl rfl zA (fun _ _ _ h => h) (Or.inr ⟨by rfl, rfl⟩) ?_ ?_
    rotate_left
    ·exact zP
    refine pure_ (i := 21) (N := some 31) (v := ?_) (a' := ?_) spec_l09Solid.m25 rfl rfl zA (fun _ _ _ h => h) (Or.inl ⟨by rfl, ?_⟩) ?_ ?_
    rotate_left
    ·intro w'
     go_simp
     with_reducible rfl
    rotate_left
    ·exact zP
    refine pure_ (i := 22) (N := some 32) (v := ?_) (a' := ?_) spec_l09Solid.m26 rfl rfl zA (fun _ _ _ h => h) (Or.inl ⟨by rfl, ?_⟩) ?_ ?_
    rotate_left
    ·intro w'
     go_simp
     with_reducible rfl
    rotate_left
    ·exact zP
    refine done_ (done_of HT_.out (by kernel_rfl)) ?_
    try go_wp2
    go_roundg k1
    case measure => have := HK1.out; omega
    case rel => exact ⟨(wrap64 (x3_1 + 1)), zS, H', ⟨by have := HK1.out; omega⟩, ⟨zB⟩⟩
   rw [if_pos c6] at H
   have c6b0 : decide (0 < x3_1) = true := decide_eq_true c6
   clear c6
   obtain ⟨ji7, hji7⟩ : ∃ j_ : Int, (wrap64 (x3_1 - 1)) = j_ := ⟨_, rfl⟩
   replace H : (if 0 ≤ (ji7) then (if (ji7) < (l0.length : Int) then ((spec_l09Less.f ((rd_T71 l0 (ji7)).f0) ((rd_T71 l0 (ji7)).f1) ((rd_T71 l0 (ji7)).f2) ((rd_T71 l0 x3_1).f0) ((rd_T71 l0 x3_1).f1) ((rd_T71 l0 x3_1).f2)).bind fun t118 => (if t118 = true then (spec_l09Solid.l0 k1 l0 (wrap64 (x3_1 + 1))) else (some false))) else (none)) else (none)) = some r := by first | (rw [hji7] at H; exact H) | (simp only [hji7] at H ⊢; exact H)
   (try rw [hji7] at A4)
   have hji7w : (IntKind.i64.wrap (x3_1 - 1)) = ji7 := (i64_w _).trans hji7
   by_cases c8 : 0 ≤ (ji7)
   rotate_left
   ·rw [if_neg c8] at H
    exact absurd H (by simp)
   rw [if_pos c8] at H
   have c8b0 : decide (0 ≤ (ji7)) = true := decide_eq_true c8
   clear c8
   by_cases c9 : (ji7) < (l0.length : Int)
   rotate_left
   ·rw [if_neg c9] at H
    exact absurd H (by simp)
   rw [if_pos c9] at H
   have c9b0 : decide ((ji7) < (l0.length : Int)) = true := decide_eq_true c9
   clear c9
   replace H := ob H
   obtain ⟨t118, A100, H⟩ := H
   (try dsimp only at H)
   have A10 := am A100
   clear A100
   by_cases c11 : t118 = true
   ·subst c11
    have H1 : (spec_l09Solid.l0 k1 l0 (wrap64 (x3_1 + 1))) = some r := by first | (rw [if_pos rfl] at H; exact H) | rfl
    clear H
    have H := H1
    clear H1
    have H' := am H
    clear H
    try go_wp2
    have n0_ := am (Bb3 HB.out)
    clear HB
    have HB := n0_
    clear n0_
    have p114 : 0 ≤ (x3_1 : Int) := zD
    have q114 : x3_1 < (l0.length : Int) := zD
    obtain ⟨ad114, e114, hx114_0, hx114_1, hx114_2⟩ := at_T71 HR0.out x3_1 p114 q114
    have hw114_2 := hx114_2
    have hw114_1 := hx114_1
    have hw114_0 := hx114_0
    cases e114
    replace hx114_0 := pc HB.out hx114_0
    replace hx114_1 := pc HB.out hx114_1
    replace hx114_2 := pc HB.out hx114_2
    replace p114 := eq_true p114
    replace q114 := eq_true q114
    have p116 : 0 ≤ ((ji7) : Int) := zD
    have q116 : (ji7) < (l0.length : Int) := zD
    obtain ⟨ad116, e116, hx116_0, hx116_1, hx116_2⟩ := at_T71 HR0.out (ji7) p116 q116
    have hw116_2 := hx116_2
    have hw116_1 := hx116_1
    have hw116_0 := hx116_0
    obtain rfl : ad114 = ad116 := (by injection e116)
    replace hx116_0 := pc HB.out hx116_0
    replace hx116_1 := pc HB.out hx116_1
    replace hx116_2 := pc HB.out hx116_2
    replace p116 := eq_true p116
    replace q116 := eq_true q116
    have p117 : 0 ≤ (x3_1 : Int) := zD
    have q117 : x3_1 < (l0.length : Int) := zD
    obtain ⟨ad117, e117, hx117_0, hx117_1, hx117_2⟩ := at_T71 HR0.out x3_1 p117 q117
    have hw117_2 := hx117_2
    have hw117_1 := hx117_1
    have hw117_0 := hx117_0
    obtain rfl : ad114 = ad117 := (by injection e117)
    replace hx117_0 := pc HB.out hx117_0
    replace hx117_1 := pc HB.out hx117_1
    replace hx117_2 := pc HB.out hx117_2
    replace p117 := eq_true p117
    replace q117 := eq_true q117
    refine start_ (n := 23) (S := fun w' => w'.cell? (ad114.add ((x3_1).toNat * 3)) = some (.int .i64 ((rd_T71 l0 x3_1).f0)) ∧ w'.cell? ⟨(ad114.add ((x3_1).toNat * 3)).block, (ad114.add ((x3_1).toNat * 3)).off + 1, none⟩ = some (.int .i64 ((rd_T71 l0 x3_1).f1)) ∧ w'.cell? ⟨(ad114.add ((x3_1).toNat * 3)).block, (ad114.add ((x3_1).toNat * 3)).off + 2, none⟩ = some (.int .i64 ((rd_T71 l0 x3_1).f2)) ∧ w'.cell? (ad114.add (((ji7)).toNat * 3)) = some (.int .i64 ((rd_T71 l0 (ji7)).f0)) ∧ w'.cell? ⟨(ad114.add (((ji7)).toNat * 3)).block, (ad114.add (((ji7)).toNat * 3)).off + 1, none⟩ = some (.int .i64 ((rd_T71 l0 (ji7)).f1)) ∧ w'.cell? ⟨(ad114.add (((ji7)).toNat * 3)).block, (ad114.add (((ji7)).toNat * 3)).off + 2, none⟩ = some (.int .i64 ((rd_T71 l0 (ji7)).f2)) ∧ w'.cell? (ad114.add ((x3_1).toNat * 3)) = some (.int .i64 ((rd_T71 l0 x3_1).f0)) ∧ w'.cell? ⟨(ad114.add ((x3_1).toNat * 3)).block, (ad114.add ((x3_1).toNat * 3)).off + 1, none⟩ = some (.int .i64 ((rd_T71 l0 x3_1).f1)) ∧ w'.cell? ⟨(ad114.add ((x3_1).toNat * 3)).block, (ad114.add ((x3_1).toNat * 3)).off + 2, none⟩ = some (.int .i64 ((rd_T71 l0 x3_1).f2))) (ds := []) spec_l09Solid.m0 (by kernel_rfl) rfl rfl ⟨(pc HB.out hw114_0), (pc HB.out hw114_1), (pc HB.out hw114_2), (pc HB.out hw116_0), (pc HB.out hw116_1), (pc HB.out hw116_2), (pc HB.out hw117_0), (pc HB.out hw117_1), (pc HB.out hw117_2)⟩ (fun hHeld => ?_); refine with_tabW spec_l09Solid.tab4 spec_l09Solid.bits4 (fun HT_ HW_ => ?_)
    generalize wr.drew = w12 at HB hx114_0 hx114_1 hx114_2 hx116_0 hx116_1 hx116_2 hx117_0 hx117_1 hx117_2 hHeld ⊢
    refine pure_ (i := 0) (N := some 10) (v := ?_) (a' := ?_) spec_l09Solid.m1 rfl rfl zA (fun _ _ _ h => h) (Or.inl ⟨by rfl, ?_⟩) ?_ ?_
    rotate_left
    ·intro w'
     go_simp
     with_reducible rfl
    rotate_left
    ·exact zP
    refine pure_ (i := 1) (N := some 11) (v := ?_) (a' := ?_) spec_l09Solid.m2 rfl rfl zA (fun _ _ _ h => h) (Or.inl ⟨by rfl, ?_⟩) ?_ ?_
    rotate_left
    ·intro w'
     go_simp
     with_reducible rfl
    rotate_left
    ·exact zP
    refine pure_ (i := 2) (N := some 12) (v := ?_) (a' := ?_) spec_l09Solid.m3 rfl rfl zA (fun _ _ _ h => h) (Or.inl ⟨by rfl, ?_⟩) ?_ ?_
    rotate_left
    ·intro w'
     go_simp
     with_reducible rfl
    rotate_left
    ·exact zP
    refine take_ (i := 3) (N := some 13) (v := ?_) (a' := ?_) spec_l09Solid.m4 rfl rfl (take_ofW HT_.out HW_.out (by kernel_rfl)) (fun _ _ _ h => h) (Or.inl ⟨by rfl, ?_⟩) hHeld ?_ ?_
    rotate_left
    ·rintro w' ⟨s0, s1, s2, s3, s4, s5, s6, s7, s8⟩
     go_simp
     with_reducible rfl
    rotate_left
    ·exact zP
    refine one_ (i := 4) (N := some 14) spec_l09Solid.m5 rfl rfl (one_of HT_.out (by kernel_rfl)) (by decide) (fun K hK => ?_)
    refine goes_ Try.func89 (by kernel_rfl) rfl #[.agg #[.int .i64 ((rd_T71 l0 x3_1).f0), .int .i64 ((rd_T71 l0 x3_1).f1), .int .i64 ((rd_T71 l0 x3_1).f2)]] (by rfl) rfl rfl zL ?_
    with_reducible refine (spec_l09Cube.calls ((rd_T71 l0 x3_1).f0) ((rd_T71 l0 x3_1).f1) ((rd_T71 l0 x3_1).f2) true _ A4.out).mono ?_
    rintro e w13 ⟨rfl, hb⟩
    refine ⟨_, rfl, ?_⟩
    have n0_ := am (Bb6 zB hb)
    clear HB
    have HB := n0_
    clear n0_
    (try clear hb)
    (try clear hb2)
    (try clear hk)
    (try clear hi)
    refine hK.out _ _ ⟨(pc HB.out hw114_0), (pc HB.out hw114_1), (pc HB.out hw114_2), (pc HB.out hw116_0), (pc HB.out hw116_1), (pc HB.out hw116_2), (pc HB.out hw117_0), (pc HB.out hw117_1), (pc HB.out hw117_2)⟩ (fun hHeld => ?_)
    clear hK K
    refine norm_ (a' := ?_) ?_ ?_
    rotate_left
    ·show Act.put _ (some 14) _ = _
     simp only [Act.put, sa, i64_w, i32_w]
     rfl
    refine pure_ (i := 5) (N := some 15) (v := ?_) (a' := ?_) spec_l09Solid.m6 rfl rfl zA (fun _ _ _ h => h) (Or.inl ⟨by rfl, ?_⟩) ?_ ?_
    rotate_left
    ·intro w'
     go_simp
     with_reducible rfl
    rotate_left
    ·exact zP
    refine pure_ (i := 6) (N := some 16) (v := ?_) (a' := ?_) spec_l09Solid.m7 rfl rfl zA (fun _ _ _ h => h) (Or.inl ⟨by rfl, ?_⟩) ?_ ?_
    rotate_left
    ·intro w'
     go_simp
     with_reducible rfl
    rotate_left
    ·exact zP
    refine pure_ (i := 7) (N := some 17) (v := ?_) (a' := ?_) spec_l09Solid.m8 rfl rfl zA (fun _ _ _ h => h) (Or.inl ⟨by rfl, ?_⟩) ?_ ?_
    rotate_left
    ·intro w'
     go_simp
     with_reducible rfl
    rotate_left
    ·exact zP
    refine pure_ (i := 8) (N := some 18) (v := ?_) (a' := ?_) spec_l09Solid.m9 rfl rfl zA (fun _ _ _ h => h) (Or.inl ⟨by rfl, ?_⟩) ?_ ?_
    rotate_left
    ·intro w'
     go_simp
     with_reducible rfl
    rotate_left
    ·exact zP
    refine pure_ (i := 9) (N := some 19) (v := ?_) (a' := ?_) spec_l09Solid.m10 rfl rfl zA (fun _ _ _ h => h) (Or.inl ⟨by rfl, ?_⟩) ?_ ?_
    rotate_left
    ·intro w'
     go_simp
     with_reducible rfl
    rotate_left
    ·exact zP
    refine pure_ (i := 10) (N := some 20) (v := ?_) (a' := ?_) spec_l09Solid.m11 rfl rfl zA (fun _ _ _ h => h) (Or.inl ⟨by rfl, ?_⟩) ?_ ?_
    rotate_left
    ·intro w'
     go_simp
     with_reducible rfl
    rotate_left
    ·exact zP
    refine pure_ (i := 11) (N := some 21) (v := ?_) (a' := ?_) spec_l09Solid.m12 rfl rfl zA (fun _ _ _ h => h) (Or.inl ⟨by rfl, ?_⟩) ?_ ?_
    rotate_left
    ·intro w'
     go_simp
     with_reducible rfl
    rotate_left
    ·exact zP
    refine pure_ (i := 12) (N := some 22) (v := ?_) (a' := ?_) spec_l09Solid.m13 rfl rfl zA (fun _ _ _ h => h) (Or.inl ⟨by rfl, ?_⟩) ?_ ?_
    rotate_left
    ·intro w'
     go_simp
     with_reducible rfl
    rotate_left
    ·exact zP
    refine pure_ (i := 13) (N := some 23) (v := ?_) (a' := ?_) spec_l09Solid.m14 rfl rfl zA (fun _ _ _ h => h) (Or.inl ⟨by rfl, ?_⟩) ?_ ?_
    rotate_left
    ·intro w'
     go_simp
     with_reducible rfl
    rotate_left
    ·exact zP
    refine pure_ (i := 15) (N := some 25) (v := ?_) (a' := ?_) spec_l09Solid.m15 rfl rfl zA (fun _ _ _ h => h) (Or.inl ⟨by rfl, ?_⟩) ?_ ?_
    rotate_left
    ·intro w'
     go_simp
     with_reducible rfl
    rotate_left
    ·exact zP
    refine pure_ (i := 16) (N := some 26) (v := ?_) (a' := ?_) spec_l09Solid.m16 rfl rfl zA (fun _ _ _ h => h) (Or.inl ⟨by rfl, ?_⟩) ?_ ?_
    rotate_left
    ·intro w'
     go_simp
     with_reducible rfl
    rotate_left
    ·exact zP
    refine pure_ (i := 17) (N := some 27) (v := ?_) (a' := ?_) spec_l09Solid.m17 rfl rfl zA (fun _ _ _ h => h) (Or.inl ⟨by rfl, ?_⟩) ?_ ?_
    rotate_left
    ·intro w'
     go_simp
     with_reducible rfl
    rotate_left
    ·exact zP
    refine take_ (i := 14) (N := some 24) (v := ?_) (a' := ?_) spec_l09Solid.m21 rfl rfl (take_ofW HT_.out HW_.out (by kernel_rfl)) (fun _ _ _ h => h) (Or.inl ⟨by rfl, ?_⟩) hHeld ?_ ?_
    rotate_left
    ·rintro w' ⟨s0, s1, s2, s3, s4, s5, s6, s7, s8⟩
     go_simp
     with_reducible rfl
    rotate_left
    ·exact zP
    refine take_ (i := 18) (N := some 28) (v := ?_) (a' := ?_) spec_l09Solid.m22 rfl rfl (take_ofW HT_.out HW_.out (by kernel_rfl)) (fun _ _ _ h => h) (Or.inl ⟨by rfl, ?_⟩) hHeld ?_ ?_
    rotate_left
    ·rintro w' ⟨s0, s1, s2, s3, s4, s5, s6, s7, s8⟩
     go_simp
     with_reducible rfl
    rotate_left
    ·exact zP
    refine one_ (i := 19) (N := some 29) spec_l09Solid.m23 rfl rfl (one_of HT_.out (by kernel_rfl)) (by decide) (fun K hK => ?_)
    refine goes_ Try.func90 (by kernel_rfl) rfl #[.agg #[.int .i64 ((rd_T71 l0 (ji7)).f0), .int .i64 ((rd_T71 l0 (ji7)).f1), .int .i64 ((rd_T71 l0 (ji7)).f2)], .agg #[.int .i64 ((rd_T71 l0 x3_1).f0), .int .i64 ((rd_T71 l0 x3_1).f1), .int .i64 ((rd_T71 l0 x3_1).f2)]] (by rfl) rfl rfl (by (try simp only [List.map_toArray, List.map_cons, List.map_nil]); first | done | (simp only [hji7]; rfl) | rfl | (simp only [List.length_drop, List.length_take]; rfl)) ?_
    with_reducible refine (spec_l09Less.calls ((rd_T71 l0 (ji7)).f0) ((rd_T71 l0 (ji7)).f1) ((rd_T71 l0 (ji7)).f2) ((rd_T71 l0 x3_1).f0) ((rd_T71 l0 x3_1).f1) ((rd_T71 l0 x3_1).f2) true _ A10.out).mono ?_
    rintro e w14 ⟨rfl, hb⟩
    refine ⟨_, rfl, ?_⟩
    have n0_ := am (Bb6 zB hb)
    clear HB
    have HB := n0_
    clear n0_
    (try clear hb)
    (try clear hb2)
    (try clear hk)
    (try clear hi)
    refine hK.out _ _ ⟨(pc HB.out hw114_0), (pc HB.out hw114_1), (pc HB.out hw114_2), (pc HB.out hw116_0), (pc HB.out hw116_1), (pc HB.out hw116_2), (pc HB.out hw117_0), (pc HB.out hw117_1), (pc HB.out hw117_2)⟩ (fun hHeld => ?_)
    clear hK K
    refine norm_ (a' := ?_) ?_ ?_
    rotate_left
    ·show Act.put _ (some 29) _ = _
     simp only [Act.put, sa, i64_w, i32_w]
     rfl
    refine pure_ (i := 20) (N := some 30) (v := ?_) (a' := ?_) spec_l09Solid.m24 rfl rfl zA (fun _ _ _ h => h) (Or.inl ⟨by rfl, ?_⟩) ?_ ?_
    rotate_left
    ·intro w'
     go_simp
     with_reducible rfl
    rotate_left
    ·exact zP
    refine pure_ (i := 21) (N := some 31) (v := ?_) (a' := ?_) spec_l09Solid.m25 rfl rfl zA (fun _ _ _ h => h) (Or.inl ⟨by rfl, ?_⟩) ?_ ?_
    rotate_left
    ·intro w'
     go_simp
     with_reducible rfl
    rotate_left
    ·exact zP
    refine pure_ (i := 22) (N := some 32) (v := ?_) (a' := ?_) spec_l09Solid.m26 rfl rfl zA (fun _ _ _ h => h) (Or.inl ⟨by rfl, ?_⟩) ?_ ?_
    rotate_left
    ·intro w'
     go_simp
     with_reducible rfl
    rotate_left
    ·exact zP
    refine done_ (done_of HT_.out (by kernel_rfl)) ?_
    try go_wp2
    go_roundg k1
    case measure => have := HK1.out; omega
    case rel => exact ⟨(wrap64 (x3_1 + 1)), zS, H', ⟨by have := HK1.out; omega⟩, ⟨zB⟩⟩
   replace c11 := ef c11
   subst c11
   have H1 : (some false) = some r := by first | (rw [if_neg (show ¬ (false = true) by decide)] at H; exact H) | rfl
   clear H
   have H := H1
   clear H1
   obtain rfl := oi H
   try go_wp2
   have n0_ := am (Bb3 HB.out)
   clear HB
   have HB := n0_
   clear n0_
   have p114 : 0 ≤ (x3_1 : Int) := zD
   have q114 : x3_1 < (l0.length : Int) := zD
   obtain ⟨ad114, e114, hx114_0, hx114_1, hx114_2⟩ := at_T71 HR0.out x3_1 p114 q114
   have hw114_2 := hx114_2
   have hw114_1 := hx114_1
   have hw114_0 := hx114_0
   cases e114
   replace hx114_0 := pc HB.out hx114_0
   replace hx114_1 := pc HB.out hx114_1
   replace hx114_2 := pc HB.out hx114_2
   replace p114 := eq_true p114
   replace q114 := eq_true q114
   have p116 : 0 ≤ ((ji7) : Int) := zD
   have q116 : (ji7) < (l0.length : Int) := zD
   obtain ⟨ad116, e116, hx116_0, hx116_1, hx116_2⟩ := at_T71 HR0.out (ji7) p116 q116
   have hw116_2 := hx116_2
   have hw116_1 := hx116_1
   have hw116_0 := hx116_0
   obtain rfl : ad114 = ad116 := (by injection e116)
   replace hx116_0 := pc HB.out hx116_0
   replace hx116_1 := pc HB.out hx116_1
   replace hx116_2 := pc HB.out hx116_2
   replace p116 := eq_true p116
   replace q116 := eq_true q116
   have p117 : 0 ≤ (x3_1 : Int) := zD
   have q117 : x3_1 < (l0.length : Int) := zD
   obtain ⟨ad117, e117, hx117_0, hx117_1, hx117_2⟩ := at_T71 HR0.out x3_1 p117 q117
   have hw117_2 := hx117_2
   have hw117_1 := hx117_1
   have hw117_0 := hx117_0
   obtain rfl : ad114 = ad117 := (by injection e117)
   replace hx117_0 := pc HB.out hx117_0
   replace hx117_1 := pc HB.out hx117_1
   replace hx117_2 := pc HB.out hx117_2
   replace p117 := eq_true p117
   replace q117 := eq_true q117
   refine start_ (n := 23) (S := fun w' => w'.cell? (ad114.add ((x3_1).toNat * 3)) = some (.int .i64 ((rd_T71 l0 x3_1).f0)) ∧ w'.cell? ⟨(ad114.add ((x3_1).toNat * 3)).block, (ad114.add ((x3_1).toNat * 3)).off + 1, none⟩ = some (.int .i64 ((rd_T71 l0 x3_1).f1)) ∧ w'.cell? ⟨(ad114.add ((x3_1).toNat * 3)).block, (ad114.add ((x3_1).toNat * 3)).off + 2, none⟩ = some (.int .i64 ((rd_T71 l0 x3_1).f2)) ∧ w'.cell? (ad114.add (((ji7)).toNat * 3)) = some (.int .i64 ((rd_T71 l0 (ji7)).f0)) ∧ w'.cell? ⟨(ad114.add (((ji7)).toNat * 3)).block, (ad114.add (((ji7)).toNat * 3)).off + 1, none⟩ = some (.int .i64 ((rd_T71 l0 (ji7)).f1)) ∧ w'.cell? ⟨(ad114.add (((ji7)).toNat * 3)).block, (ad114.add (((ji7)).toNat * 3)).off + 2, none⟩ = some (.int .i64 ((rd_T71 l0 (ji7)).f2)) ∧ w'.cell? (ad114.add ((x3_1).toNat * 3)) = some (.int .i64 ((rd_T71 l0 x3_1).f0)) ∧ w'.cell? ⟨(ad114.add ((x3_1).toNat * 3)).block, (ad114.add ((x3_1).toNat * 3)).off + 1, none⟩ = some (.int .i64 ((rd_T71 l0 x3_1).f1)) ∧ w'.cell? ⟨(ad114.add ((x3_1).toNat * 3)).block, (ad114.add ((x3_1).toNat * 3)).off + 2, none⟩ = some (.int .i64 ((rd_T71 l0 x3_1).f2))) (ds := []) spec_l09Solid.m0 (by kernel_rfl) rfl rfl ⟨(pc HB.out hw114_0), (pc HB.out hw114_1), (pc HB.out hw114_2), (pc HB.out hw116_0), (pc HB.out hw116_1), (pc HB.out hw116_2), (pc HB.out hw117_0), (pc HB.out hw117_1), (pc HB.out hw117_2)⟩ (fun hHeld => ?_); refine with_tabW spec_l09Solid.tab4 spec_l09Solid.bits4 (fun HT_ HW_ => ?_)
   generalize wr.drew = w15 at HB hx114_0 hx114_1 hx114_2 hx116_0 hx116_1 hx116_2 hx117_0 hx117_1 hx117_2 hHeld ⊢
   refine pure_ (i := 0) (N := some 10) (v := ?_) (a' := ?_) spec_l09Solid.m1 rfl rfl zA (fun _ _ _ h => h) (Or.inl ⟨by rfl, ?_⟩) ?_ ?_
   rotate_left
   ·intro w'
    go_simp
    with_reducible rfl
   rotate_left
   ·exact zP
   refine pure_ (i := 1) (N := some 11) (v := ?_) (a' := ?_) spec_l09Solid.m2 rfl rfl zA (fun _ _ _ h => h) (Or.inl ⟨by rfl, ?_⟩) ?_ ?_
   rotate_left
   ·intro w'
    go_simp
    with_reducible rfl
   rotate_left
   ·exact zP
   refine pure_ (i := 2) (N := some 12) (v := ?_) (a' := ?_) spec_l09Solid.m3 rfl rfl zA (fun _ _ _ h => h) (Or.inl ⟨by rfl, ?_⟩) ?_ ?_
   rotate_left
   ·intro w'
    go_simp
    with_reducible rfl
   rotate_left
   ·exact zP
   refine take_ (i := 3) (N := some 13) (v := ?_) (a' := ?_) spec_l09Solid.m4 rfl rfl (take_ofW HT_.out HW_.out (by kernel_rfl)) (fun _ _ _ h => h) (Or.inl ⟨by rfl, ?_⟩) hHeld ?_ ?_
   rotate_left
   ·rintro w' ⟨s0, s1, s2, s3, s4, s5, s6, s7, s8⟩
    go_simp
    with_reducible rfl
   rotate_left
   ·exact zP
   refine one_ (i := 4) (N := some 14) spec_l09Solid.m5 rfl rfl (one_of HT_.out (by kernel_rfl)) (by decide) (fun K hK => ?_)
   refine goes_ Try.func89 (by kernel_rfl) rfl #[.agg #[.int .i64 ((rd_T71 l0 x3_1).f0), .int .i64 ((rd_T71 l0 x3_1).f1), .int .i64 ((rd_T71 l0 x3_1).f2)]] (by rfl) rfl rfl zL ?_
   with_reducible refine (spec_l09Cube.calls ((rd_T71 l0 x3_1).f0) ((rd_T71 l0 x3_1).f1) ((rd_T71 l0 x3_1).f2) true _ A4.out).mono ?_
   rintro e w16 ⟨rfl, hb⟩
   refine ⟨_, rfl, ?_⟩
   have n0_ := am (Bb6 zB hb)
   clear HB
   have HB := n0_
   clear n0_
   (try clear hb)
   (try clear hb2)
   (try clear hk)
   (try clear hi)
   refine hK.out _ _ ⟨(pc HB.out hw114_0), (pc HB.out hw114_1), (pc HB.out hw114_2), (pc HB.out hw116_0), (pc HB.out hw116_1), (pc HB.out hw116_2), (pc HB.out hw117_0), (pc HB.out hw117_1), (pc HB.out hw117_2)⟩ (fun hHeld => ?_)
   clear hK K
   refine norm_ (a' := ?_) ?_ ?_
   rotate_left
   ·show Act.put _ (some 14) _ = _
    simp only [Act.put, sa, i64_w, i32_w]
    rfl
   refine pure_ (i := 5) (N := some 15) (v := ?_) (a' := ?_) spec_l09Solid.m6 rfl rfl zA (fun _ _ _ h => h) (Or.inl ⟨by rfl, ?_⟩) ?_ ?_
   rotate_left
   ·intro w'
    go_simp
    with_reducible rfl
   rotate_left
   ·exact zP
   refine pure_ (i := 6) (N := some 16) (v := ?_) (a' := ?_) spec_l09Solid.m7 rfl rfl zA (fun _ _ _ h => h) (Or.inl ⟨by rfl, ?_⟩) ?_ ?_
   rotate_left
   ·intro w'
    go_simp
    with_reducible rfl
   rotate_left
   ·exact zP
   refine pure_ (i := 7) (N := some 17) (v := ?_) (a' := ?_) spec_l09Solid.m8 rfl rfl zA (fun _ _ _ h => h) (Or.inl ⟨by rfl, ?_⟩) ?_ ?_
   rotate_left
   ·intro w'
    go_simp
    with_reducible rfl
   rotate_left
   ·exact zP
   refine pure_ (i := 8) (N := some 18) (v := ?_) (a' := ?_) spec_l09Solid.m9 rfl rfl zA (fun _ _ _ h => h) (Or.inl ⟨by rfl, ?_⟩) ?_ ?_
   rotate_left
   ·intro w'
    go_simp
    with_reducible rfl
   rotate_left
   ·exact zP
   refine pure_ (i := 9) (N := some 19) (v := ?_) (a' := ?_) spec_l09Solid.m10 rfl rfl zA (fun _ _ _ h => h) (Or.inl ⟨by rfl, ?_⟩) ?_ ?_
   rotate_left
   ·intro w'
    go_simp
    with_reducible rfl
   rotate_left
   ·exact zP
   refine pure_ (i := 10) (N := some 20) (v := ?_) (a' := ?_) spec_l09Solid.m11 rfl rfl zA (fun _ _ _ h => h) (Or.inl ⟨by rfl, ?_⟩) ?_ ?_
   rotate_left
   ·intro w'
    go_simp
    with_reducible rfl
   rotate_left
   ·exact zP
   refine pure_ (i := 11) (N := some 21) (v := ?_) (a' := ?_) spec_l09Solid.m12 rfl rfl zA (fun _ _ _ h => h) (Or.inl ⟨by rfl, ?_⟩) ?_ ?_
   rotate_left
   ·intro w'
    go_simp
    with_reducible rfl
   rotate_left
   ·exact zP
   refine pure_ (i := 12) (N := some 22) (v := ?_) (a' := ?_) spec_l09Solid.m13 rfl rfl zA (fun _ _ _ h => h) (Or.inl ⟨by rfl, ?_⟩) ?_ ?_
   rotate_left
   ·intro w'
    go_simp
    with_reducible rfl
   rotate_left
   ·exact zP
   refine pure_ (i := 13) (N := some 23) (v := ?_) (a' := ?_) spec_l09Solid.m14 rfl rfl zA (fun _ _ _ h => h) (Or.inl ⟨by rfl, ?_⟩) ?_ ?_
   rotate_left
   ·intro w'
    go_simp
    with_reducible rfl
   rotate_left
   ·exact zP
   refine pure_ (i := 15) (N := some 25) (v := ?_) (a' := ?_) spec_l09Solid.m15 rfl rfl zA (fun _ _ _ h => h) (Or.inl ⟨by rfl, ?_⟩) ?_ ?_
   rotate_left
   ·intro w'
    go_simp
    with_reducible rfl
   rotate_left
   ·exact zP
   refine pure_ (i := 16) (N := some 26) (v := ?_) (a' := ?_) spec_l09Solid.m16 rfl rfl zA (fun _ _ _ h => h) (Or.inl ⟨by rfl, ?_⟩) ?_ ?_
   rotate_left
   ·intro w'
    go_simp
    with_reducible rfl
   rotate_left
   ·exact zP
   refine pure_ (i := 17) (N := some 27) (v := ?_) (a' := ?_) spec_l09Solid.m17 rfl rfl zA (fun _ _ _ h => h) (Or.inl ⟨by rfl, ?_⟩) ?_ ?_
   rotate_left
   ·intro w'
    go_simp
    with_reducible rfl
   rotate_left
   ·exact zP
   refine take_ (i := 14) (N := some 24) (v := ?_) (a' := ?_) spec_l09Solid.m21 rfl rfl (take_ofW HT_.out HW_.out (by kernel_rfl)) (fun _ _ _ h => h) (Or.inl ⟨by rfl, ?_⟩) hHeld ?_ ?_
   rotate_left
   ·rintro w' ⟨s0, s1, s2, s3, s4, s5, s6, s7, s8⟩
    go_simp
    with_reducible rfl
   rotate_left
   ·exact zP
   refine take_ (i := 18) (N := some 28) (v := ?_) (a' := ?_) spec_l09Solid.m22 rfl rfl (take_ofW HT_.out HW_.out (by kernel_rfl)) (fun _ _ _ h => h) (Or.inl ⟨by rfl, ?_⟩) hHeld ?_ ?_
   rotate_left
   ·rintro w' ⟨s0, s1, s2, s3, s4, s5, s6, s7, s8⟩
    go_simp
    with_reducible rfl
   rotate_left
   ·exact zP
   refine one_ (i := 19) (N := some 29) spec_l09Solid.m23 rfl rfl (one_of HT_.out (by kernel_rfl)) (by decide) (fun K hK => ?_)
   refine goes_ Try.func90 (by kernel_rfl) rfl #[.agg #[.int .i64 ((rd_T71 l0 (ji7)).f0), .int .i64 ((rd_T71 l0 (ji7)).f1), .int .i64 ((rd_T71 l0 (ji7)).f2)], .agg #[.int .i64 ((rd_T71 l0 x3_1).f0), .int .i64 ((rd_T71 l0 x3_1).f1), .int .i64 ((rd_T71 l0 x3_1).f2)]] (by rfl) rfl rfl (by (try simp only [List.map_toArray, List.map_cons, List.map_nil]); first | done | (simp only [hji7]; rfl) | rfl | (simp only [List.length_drop, List.length_take]; rfl)) ?_
   with_reducible refine (spec_l09Less.calls ((rd_T71 l0 (ji7)).f0) ((rd_T71 l0 (ji7)).f1) ((rd_T71 l0 (ji7)).f2) ((rd_T71 l0 x3_1).f0) ((rd_T71 l0 x3_1).f1) ((rd_T71 l0 x3_1).f2) false _ A10.out).mono ?_
   rintro e w17 ⟨rfl, hb⟩
   refine ⟨_, rfl, ?_⟩
   have n0_ := am (Bb6 zB hb)
   clear HB
   have HB := n0_
   clear n0_
   (try clear hb)
   (try clear hb2)
   (try clear hk)
   (try clear hi)
   refine hK.out _ _ ⟨(pc HB.out hw114_0), (pc HB.out hw114_1), (pc HB.out hw114_2), (pc HB.out hw116_0), (pc HB.out hw116_1), (pc HB.out hw116_2), (pc HB.out hw117_0), (pc HB.out hw117_1), (pc HB.out hw117_2)⟩ (fun hHeld => ?_)
   clear hK K
   refine norm_ (a' := ?_) ?_ ?_
   rotate_left
   ·show Act.put _ (some 29) _ = _
    simp only [Act.put, sa, i64_w, i32_w]
    rfl
   refine pure_ (i := 20) (N := some 30) (v := ?_) (a' := ?_) spec_l09Solid.m24 rfl rfl zA (fun _ _ _ h => h) (Or.inl ⟨by rfl, ?_⟩) ?_ ?_
   rotate_left
   ·intro w'
    go_simp
    with_reducible rfl
   rotate_left
   ·exact zP
   refine pure_ (i := 21) (N := some 31) (v := ?_) (a' := ?_) spec_l09Solid.m25 rfl rfl zA (fun _ _ _ h => h) (Or.inl ⟨by rfl, ?_⟩) ?_ ?_
   rotate_left
   ·intro w'
    go_simp
    with_reducible rfl
   rotate_left
   ·exact zP
   refine pure_ (i := 22) (N := some 32) (v := ?_) (a' := ?_) spec_l09Solid.m26 rfl rfl zA (fun _ _ _ h => h) (Or.inl ⟨by rfl, ?_⟩) ?_ ?_
   rotate_left
   ·intro w'
    go_simp
    with_reducible rfl
   rotate_left
   ·exact zP
   refine done_ (done_of HT_.out (by kernel_rfl)) ?_
   try go_wp2
   go_ret
   exact ⟨by first | rfl | (simp [errW_none, errW_some] <;> rfl) | (simp only [← hji7]; first | rfl | (simp [errW_none, errW_some] <;> rfl)) | (simp [*, errW_none, errW_some] <;> rfl), zB⟩

end Go.Proofs.Ytjgnlakgojookaa.Q
