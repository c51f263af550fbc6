/- Written by a program of this session (wip/tools/pp.py) out of the translation, with the kit's printer. -/
import Derived.Test.YtjgnlakgojookaaQ0
import Derived.Test.YtjgnlakgojookaaQ16
namespace Go.Proofs.Ytjgnlakgojookaa.Q
open Go.RowKit Go.Proofs.YtjgnlakgojookaaW.PrintWords Go.Proofs.YtjgnlakgojookaaW.PrintLast Go.Proofs.YtjgnlakgojookaaW.PrintMore
attribute [local go_sem] max2_int min2_int max_two min_two max_three min_three max_four min_four
set_option linter.unusedVariables false
set_option linter.unusedSimpArgs false

/-! ### laws_eqCubeS: function 22 -/
abbrev laws_eqCubeS.m0 : Array Bool := #[z',z',z',z',z',z',z',z',z',z']
abbrev laws_eqCubeS.m1 : Array Bool := #[o',z',z',z',z',z',z',z',z',z']
abbrev laws_eqCubeS.m2 : Array Bool := #[o',o',z',z',z',z',z',z',z',z']
abbrev laws_eqCubeS.m3 : Array Bool := #[o',o',o',z',z',z',z',z',z',z']
abbrev laws_eqCubeS.m4 : Array Bool := #[o',o',o',z',o',z',z',z',z',z']
abbrev laws_eqCubeS.m5 : Array Bool := #[o',o',o',z',o',o',z',z',z',z']
abbrev laws_eqCubeS.m6 : Array Bool := #[o',o',o',z',o',o',o',z',z',z']
abbrev laws_eqCubeS.m7 : Array Bool := #[o',o',o',o',o',o',o',z',z',z']
abbrev laws_eqCubeS.m8 : Array Bool := #[o',o',o',o',o',o',o',o',z',z']
abbrev laws_eqCubeS.m9 : Array Bool := #[o',o',o',o',o',o',o',o',o',z']
abbrev laws_eqCubeS.m10 : Array Bool := #[o',o',o',o',o',o',o',o',o',o']
def laws_eqCubeS.l0 : Nat → List (S71) → List (S71) → Int → Option (Bool)
 | 0, _, _, _ => none
 | k + 1, x0, x1, x5 => if x5 < (x0.length : Int) then (if 0 ≤ x5 then (if x5 < (x1.length : Int) then ((laws_eqCube.f ((rd_T71 x0 x5).f0) ((rd_T71 x0 x5).f1) ((rd_T71 x0 x5).f2) ((rd_T71 x1 x5).f0) ((rd_T71 x1 x5).f1) ((rd_T71 x1 x5).f2)).bind fun t225 => (if t225 = true then (laws_eqCubeS.l0 k x0 x1 (wrap64 (x5 + 1))) else (some false))) else (none)) else (none)) else (some true)
def laws_eqCubeS.f (k : Nat) (l0 : List (S71)) (l1 : List (S71)) : Option (Bool) := if (l0.length : Int) = (l1.length : Int) then (laws_eqCubeS.l0 k l0 l1 0) else (some false)
theorem laws_eqCubeS.mono_l : ∀ k, (∀ y0 y1 y2, LeO (laws_eqCubeS.l0 k y0 y1 y2) (laws_eqCubeS.l0 (k + 1) y0 y1 y2))
 | 0 => fun _ _ _ r h => by simp [laws_eqCubeS.l0] at h
 | k + 1 => by
  have ih0 := laws_eqCubeS.mono_l k
  ·intro y0 y1 y2
   unfold laws_eqCubeS.l0
   repeat' first
   | (with_reducible exact ih0 _ _ _)
   | (with_reducible exact LeO.refl _)
   | (with_reducible exact LeO.none _)
   | (with_reducible refine LeO.ite ?_ ?_)
   | (with_reducible refine LeO.bind ?_ (fun _ => ?_))
   | exact ih0 _ _ _
   | exact LeO.none _
   | refine LeO.ite ?_ ?_
   | refine LeO.bind ?_ (fun _ => ?_)
theorem laws_eqCubeS.mono : ∀ a0 a1 k, LeO (laws_eqCubeS.f k a0 a1) (laws_eqCubeS.f (k + 1) a0 a1) := by
 intro a0 a1 k
 have ih0 := laws_eqCubeS.mono_l k
 unfold laws_eqCubeS.f
 repeat' first
   | (with_reducible exact ih0 _ _ _)
   | (with_reducible exact LeO.refl _)
   | (with_reducible exact LeO.none _)
   | (with_reducible refine LeO.ite ?_ ?_)
   | (with_reducible refine LeO.bind ?_ (fun _ => ?_))
   | exact ih0 _ _ _
   | exact LeO.none _
   | refine LeO.ite ?_ ?_
   | refine LeO.bind ?_ (fun _ => ?_)
def laws_eqCubeS.T6 : Bool × List (List Nat × List Nat) := (true, [([], []), ([], []), ([0, 1], [0, 1]), ([2], [2]), ([], []), ([], []), ([4, 5], [4, 5]), ([6], [6]), ([3, 7], [3, 7]), ([8], [8])])
def laws_eqCubeS.B6 : List Nat := [0, 0, 3, 7, 0, 0, 48, 112, 255, 511]
theorem laws_eqCubeS.tab6 : rtab .any (opsOf Try.f22 6) = laws_eqCubeS.T6 := by kernel_rfl
theorem laws_eqCubeS.bits6 : waitsOk laws_eqCubeS.T6.2 laws_eqCubeS.B6 = true := by kernel_rfl
set_option maxHeartbeats 8000000 in
set_option maxRecDepth 100000 in
theorem laws_eqCubeS.calls (k : Nat) (A0 : Option Addr) (c0 : Nat) (l0 : List (S71)) (A1 : Option Addr) (c1 : Nat) (l1 : List (S71)) (r : Bool) (w : World) (hr0 : Kd.C k71 w A0 l0.length l0) (hc0 : l0.length ≤ c0) (hr1 : Kd.C k71 w A1 l1.length l1) (hc1 : l1.length ≤ c1) (h : laws_eqCubeS.f k l0 l1 = some r) :
  Calls Try.prog 22 #[.slice A0 l0.length c0, .slice A1 l1.length c1] w fun e w' => e = .returned (.bool r) ∧ Below w.heap.size w w' := by
 have hu71 := Try.underlying71
 have HR0 := am hr0
 have HC0 := am hc0
 clear hr0 hc0
 have HR1 := am hr1
 have HC1 := am hc1
 clear hr1 hc1
 have HB := am (Below.refl w.heap.size w)
 have H : (if (l0.length : Int) = (l1.length : Int) then (laws_eqCubeS.l0 k l0 l1 0) else (some false)) = some r := h
 clear h
 by_cases c3 : (l0.length : Int) = (l1.length : Int)
 rotate_left
 ·rw [if_neg c3] at H
  have c3b0 : ((l0.length : Int) == (l1.length : Int)) = false := beq_eq_false_iff_ne.mpr c3
  have c3b1 : ((l0.length : Int) != (l1.length : Int)) = true := bne_iff_ne.mpr c3
  have c3b2 : (l0.length == l1.length) = false := by first | simpa using c3 | (simp at c3 ⊢; omega)
  obtain rfl := oi H
  go_enter Try.func22, Try.ntmps22
  go_wp2
  go_ret
  exact ⟨zE, zB⟩
 rw [if_pos c3] at H
 have c3b0 : ((l0.length : Int) == (l1.length : Int)) = true := beq_iff_eq.mpr c3
 have c3b1 : ((l0.length : Int) != (l1.length : Int)) = false := bne_eq_false_iff_eq.mpr c3
 have c3b2 : (l0.length == l1.length) = true := by first | simpa using c3 | (simp at c3 ⊢; omega)
 clear c3
 have H' := am H
 clear H
 go_enter Try.func22, Try.ntmps22
 go_wp2
 go_loopg [5] k (fun kq v5 w' => ∃ (x5_1 : Int), v5 = .int .i64 x5_1 ∧ Aside0 (laws_eqCubeS.l0 kq l0 l1 x5_1 = some r) ∧ Aside0 (kq ≤ k) ∧ Aside0 (Below w.heap.size w w'))
 case atStart => exact ⟨(0), zS, H', ⟨Nat.le_refl _⟩, ⟨zB⟩⟩
 case round =>
  clear H'
  try clear c1
  try clear c2
  try clear p2
  try clear c3
  try clear c3b0
  try clear c3b1
  try clear c3b2
  obtain ⟨x5_1, rfl, HA, HK1, HB⟩ := hrel
  cases gk with
  | zero => exact absurd HA.out (by simp [laws_eqCubeS.l0])
  | succ k1 =>
   have H := HA.out
   clear HA
   simp only [laws_eqCubeS.l0] at H
   by_cases c4 : x5_1 < (l0.length : Int)
   rotate_left
   ·rw [if_neg c4] at H
    have c4b0 : decide (x5_1 < (l0.length : Int)) = false := decide_eq_false c4
    clear c4
    obtain rfl := oi H
    go_wp2
    go_ret
    exact ⟨zE, zB⟩
   rw [if_pos c4] at H
   have c4b0 : decide (x5_1 < (l0.length : Int)) = true := decide_eq_true c4
   clear c4
   by_cases c5 : 0 ≤ x5_1
   rotate_left
   ·rw [if_neg c5] at H
    exact absurd H (by simp)
   rw [if_pos c5] at H
   have c5b0 : decide (0 ≤ x5_1) = true := decide_eq_true c5
   clear c5
   by_cases c6 : x5_1 < (l1.length : Int)
   rotate_left
   ·rw [if_neg c6] at H
    exact absurd H (by simp)
   rw [if_pos c6] at H
   have c6b0 : decide (x5_1 < (l1.length : Int)) = true := decide_eq_true c6
   clear c6
   replace H := ob H
   obtain ⟨t225, A70, H⟩ := H
   (try dsimp only at H)
   have A7 := am A70
   clear A70
   by_cases c8 : t225 = true
   rotate_left
   ·replace c8 := ef c8
    subst c8
    have H1 : (some false) = some r := by first | (rw [if_neg (show ¬ (false = true) by decide)] at H; exact H) | rfl
    clear H
    have H := H1
    clear H1
    obtain rfl := oi H
    try go_wp2
    have n0_ := am (Bb3 HB.out)
    clear HB
    have HB := n0_
    clear n0_
    have p223 : 0 ≤ (x5_1 : Int) := zD
    have q223 : x5_1 < (l0.length : Int) := zD
    obtain ⟨ad223, e223, hx223_0, hx223_1, hx223_2⟩ := at_T71 HR0.out x5_1 p223 q223
    have hw223_2 := hx223_2
    have hw223_1 := hx223_1
    have hw223_0 := hx223_0
    cases e223
    replace hx223_0 := pc HB.out hx223_0
    replace hx223_1 := pc HB.out hx223_1
    replace hx223_2 := pc HB.out hx223_2
    replace p223 := eq_true p223
    replace q223 := eq_true q223
    have p224 : 0 ≤ (x5_1 : Int) := zD
    have q224 : x5_1 < (l1.length : Int) := zD
    obtain ⟨ad224, e224, hx224_0, hx224_1, hx224_2⟩ := at_T71 HR1.out x5_1 p224 q224
    have hw224_2 := hx224_2
    have hw224_1 := hx224_1
    have hw224_0 := hx224_0
    cases e224
    replace hx224_0 := pc HB.out hx224_0
    replace hx224_1 := pc HB.out hx224_1
    replace hx224_2 := pc HB.out hx224_2
    replace p224 := eq_true p224
    replace q224 := eq_true q224
    refine start_ (n := 10) (S := fun w' => w'.cell? (ad223.add ((x5_1).toNat * 3)) = some (.int .i64 ((rd_T71 l0 x5_1).f0)) ∧ w'.cell? ⟨(ad223.add ((x5_1).toNat * 3)).block, (ad223.add ((x5_1).toNat * 3)).off + 1, none⟩ = some (.int .i64 ((rd_T71 l0 x5_1).f1)) ∧ w'.cell? ⟨(ad223.add ((x5_1).toNat * 3)).block, (ad223.add ((x5_1).toNat * 3)).off + 2, none⟩ = some (.int .i64 ((rd_T71 l0 x5_1).f2)) ∧ w'.cell? (ad224.add ((x5_1).toNat * 3)) = some (.int .i64 ((rd_T71 l1 x5_1).f0)) ∧ w'.cell? ⟨(ad224.add ((x5_1).toNat * 3)).block, (ad224.add ((x5_1).toNat * 3)).off + 1, none⟩ = some (.int .i64 ((rd_T71 l1 x5_1).f1)) ∧ w'.cell? ⟨(ad224.add ((x5_1).toNat * 3)).block, (ad224.add ((x5_1).toNat * 3)).off + 2, none⟩ = some (.int .i64 ((rd_T71 l1 x5_1).f2))) (ds := []) laws_eqCubeS.m0 (by kernel_rfl) rfl rfl ⟨(pc HB.out hw223_0), (pc HB.out hw223_1), (pc HB.out hw223_2), (pc HB.out hw224_0), (pc HB.out hw224_1), (pc HB.out hw224_2)⟩ (fun hHeld => ?_); refine with_tabW laws_eqCubeS.tab6 laws_eqCubeS.bits6 (fun HT_ HW_ => ?_)
    generalize wr.drew = w11 at HB hx223_0 hx223_1 hx223_2 hx224_0 hx224_1 hx224_2 hHeld ⊢
    refine pure_ (i := 0) (N := some 17) (v := ?_) (a' := ?_) laws_eqCubeS.m1 rfl rfl zA (fun _ _ _ h => h) (Or.inl ⟨by rfl, ?_⟩) ?_ ?_
    rotate_left
    ·intro w'
     go_simp
     with_reducible rfl
    rotate_left
    ·exact zP
    refine pure_ (i := 1) (N := some 18) (v := ?_) (a' := ?_) laws_eqCubeS.m2 rfl rfl zA (fun _ _ _ h => h) (Or.inl ⟨by rfl, ?_⟩) ?_ ?_
    rotate_left
    ·intro w'
     go_simp
     with_reducible rfl
    rotate_left
    ·exact zP
    refine pure_ (i := 2) (N := some 19) (v := ?_) (a' := ?_) laws_eqCubeS.m3 rfl rfl zA (fun _ _ _ h => h) (Or.inl ⟨by rfl, ?_⟩) ?_ ?_
    rotate_left
    ·intro w'
     go_simp
     with_reducible rfl
    rotate_left
    ·exact zP
    refine pure_ (i := 4) (N := some 21) (v := ?_) (a' := ?_) laws_eqCubeS.m4 rfl rfl zA (fun _ _ _ h => h) (Or.inl ⟨by rfl, ?_⟩) ?_ ?_
    rotate_left
    ·intro w'
     go_simp
     with_reducible rfl
    rotate_left
    ·exact zP
    refine pure_ (i := 5) (N := some 22) (v := ?_) (a' := ?_) laws_eqCubeS.m5 rfl rfl zA (fun _ _ _ h => h) (Or.inl ⟨by rfl, ?_⟩) ?_ ?_
    rotate_left
    ·intro w'
     go_simp
     with_reducible rfl
    rotate_left
    ·exact zP
    refine pure_ (i := 6) (N := some 23) (v := ?_) (a' := ?_) laws_eqCubeS.m6 rfl rfl zA (fun _ _ _ h => h) (Or.inl ⟨by rfl, ?_⟩) ?_ ?_
    rotate_left
    ·intro w'
     go_simp
     with_reducible rfl
    rotate_left
    ·exact zP
    refine take_ (i := 3) (N := some 20) (v := ?_) (a' := ?_) laws_eqCubeS.m7 rfl rfl (take_ofW HT_.out HW_.out (by kernel_rfl)) (fun _ _ _ h => h) (Or.inl ⟨by rfl, ?_⟩) hHeld ?_ ?_
    rotate_left
    ·rintro w' ⟨s0, s1, s2, s3, s4, s5⟩
     go_simp
     with_reducible rfl
    rotate_left
    ·exact zP
    refine take_ (i := 7) (N := some 24) (v := ?_) (a' := ?_) laws_eqCubeS.m8 rfl rfl (take_ofW HT_.out HW_.out (by kernel_rfl)) (fun _ _ _ h => h) (Or.inl ⟨by rfl, ?_⟩) hHeld ?_ ?_
    rotate_left
    ·rintro w' ⟨s0, s1, s2, s3, s4, s5⟩
     go_simp
     with_reducible rfl
    rotate_left
    ·exact zP
    refine one_ (i := 8) (N := some 25) laws_eqCubeS.m9 rfl rfl (one_of HT_.out (by kernel_rfl)) (by decide) (fun K hK => ?_)
    refine goes_ Try.func69 (by kernel_rfl) rfl #[.agg #[.int .i64 ((rd_T71 l0 x5_1).f0), .int .i64 ((rd_T71 l0 x5_1).f1), .int .i64 ((rd_T71 l0 x5_1).f2)], .agg #[.int .i64 ((rd_T71 l1 x5_1).f0), .int .i64 ((rd_T71 l1 x5_1).f1), .int .i64 ((rd_T71 l1 x5_1).f2)]] (by rfl) rfl rfl zL ?_
    with_reducible refine (laws_eqCube.calls ((rd_T71 l0 x5_1).f0) ((rd_T71 l0 x5_1).f1) ((rd_T71 l0 x5_1).f2) ((rd_T71 l1 x5_1).f0) ((rd_T71 l1 x5_1).f1) ((rd_T71 l1 x5_1).f2) false _ A7.out).mono ?_
    rintro e w12 ⟨rfl, hb⟩
    refine ⟨_, rfl, ?_⟩
    have n0_ := am (Bb6 zB hb)
    clear HB
    have HB := n0_
    clear n0_
    (try clear hb)
    (try clear hb2)
    (try clear hk)
    (try clear hi)
    refine hK.out _ _ ⟨(pc HB.out hw223_0), (pc HB.out hw223_1), (pc HB.out hw223_2), (pc HB.out hw224_0), (pc HB.out hw224_1), (pc HB.out hw224_2)⟩ (fun hHeld => ?_)
    clear hK K
    refine norm_ (a' := ?_) ?_ ?_
    rotate_left
    ·show Act.put _ (some 25) _ = _
     simp only [Act.put, sa, i64_w, i32_w]
     rfl
    refine pure_ (i := 9) (N := some 26) (v := ?_) (a' := ?_) laws_eqCubeS.m10 rfl rfl zA (fun _ _ _ h => h) (Or.inl ⟨by rfl, ?_⟩) ?_ ?_
    rotate_left
    ·intro w'
     go_simp
     with_reducible rfl
    rotate_left
    ·exact zP
    refine done_ (done_of HT_.out (by kernel_rfl)) ?_
    try go_wp2
    go_ret
    exact ⟨zE, zB⟩
   subst c8
   have H1 : (laws_eqCubeS.l0 k1 l0 l1 (wrap64 (x5_1 + 1))) = some r := by first | (rw [if_pos rfl] at H; exact H) | rfl
   clear H
   have H := H1
   clear H1
   have H' := am H
   clear H
   try go_wp2
   have n0_ := am (Bb3 HB.out)
   clear HB
   have HB := n0_
   clear n0_
   have p223 : 0 ≤ (x5_1 : Int) := zD
   have q223 : x5_1 < (l0.length : Int) := zD
   obtain ⟨ad223, e223, hx223_0, hx223_1, hx223_2⟩ := at_T71 HR0.out x5_1 p223 q223
   have hw223_2 := hx223_2
   have hw223_1 := hx223_1
   have hw223_0 := hx223_0
   cases e223
   replace hx223_0 := pc HB.out hx223_0
   replace hx223_1 := pc HB.out hx223_1
   replace hx223_2 := pc HB.out hx223_2
   replace p223 := eq_true p223
   replace q223 := eq_true q223
   have p224 : 0 ≤ (x5_1 : Int) := zD
   have q224 : x5_1 < (l1.length : Int) := zD
   obtain ⟨ad224, e224, hx224_0, hx224_1, hx224_2⟩ := at_T71 HR1.out x5_1 p224 q224
   have hw224_2 := hx224_2
   have hw224_1 := hx224_1
   have hw224_0 := hx224_0
   cases e224
   replace hx224_0 := pc HB.out hx224_0
   replace hx224_1 := pc HB.out hx224_1
   replace hx224_2 := pc HB.out hx224_2
   replace p224 := eq_true p224
   replace q224 := eq_true q224
   refine start_ (n := 10) (S := fun w' => w'.cell? (ad223.add ((x5_1).toNat * 3)) = some (.int .i64 ((rd_T71 l0 x5_1).f0)) ∧ w'.cell? ⟨(ad223.add ((x5_1).toNat * 3)).block, (ad223.add ((x5_1).toNat * 3)).off + 1, none⟩ = some (.int .i64 ((rd_T71 l0 x5_1).f1)) ∧ w'.cell? ⟨(ad223.add ((x5_1).toNat * 3)).block, (ad223.add ((x5_1).toNat * 3)).off + 2, none⟩ = some (.int .i64 ((rd_T71 l0 x5_1).f2)) ∧ w'.cell? (ad224.add ((x5_1).toNat * 3)) = some (.int .i64 ((rd_T71 l1 x5_1).f0)) ∧ w'.cell? ⟨(ad224.add ((x5_1).toNat * 3)).block, (ad224.add ((x5_1).toNat * 3)).off + 1, none⟩ = some (.int .i64 ((rd_T71 l1 x5_1).f1)) ∧ w'.cell? ⟨(ad224.add ((x5_1).toNat * 3)).block, (ad224.add ((x5_1).toNat * 3)).off + 2, none⟩ = some (.int .i64 ((rd_T71 l1 x5_1).f2))) (ds := []) laws_eqCubeS.m0 (by kernel_rfl) rfl rfl ⟨(pc HB.out hw223_0), (pc HB.out hw223_1), (pc HB.out hw223_2), (pc HB.out hw224_0), (pc HB.out hw224_1), (pc HB.out hw224_2)⟩ (fun hHeld => ?_); refine with_tabW laws_eqCubeS.tab6 laws_eqCubeS.bits6 (fun HT_ HW_ => ?_)
   generalize wr.drew = w9 at HB hx223_0 hx223_1 hx223_2 hx224_0 hx224_1 hx224_2 hHeld ⊢
   refine pure_ (i := 0) (N := some 17) (v := ?_) (a' := ?_) laws_eqCubeS.m1 rfl rfl zA (fun _ _ _ h => h) (Or.inl ⟨by rfl, ?_⟩) ?_ ?_
   rotate_left
   ·intro w'
    go_simp
    with_reducible rfl
   rotate_left
   ·exact zP
   refine pure_ (i := 1) (N := some 18) (v := ?_) (a' := ?_) laws_eqCubeS.m2 rfl rfl zA (fun _ _ _ h => h) (Or.inl ⟨by rfl, ?_⟩) ?_ ?_
   rotate_left
   ·intro w'
    go_simp
    with_reducible rfl
   rotate_left
   ·exact zP
   refine pure_ (i := 2) (N := some 19) (v := ?_) (a' := ?_) laws_eqCubeS.m3 rfl rfl zA (fun _ _ _ h => h) (Or.inl ⟨by rfl, ?_⟩) ?_ ?_
   rotate_left
   ·intro w'
    go_simp
    with_reducible rfl
   rotate_left
   ·exact zP
   refine pure_ (i := 4) (N := some 21) (v := ?_) (a' := ?_) laws_eqCubeS.m4 rfl rfl zA (fun _ _ _ h => h) (Or.inl ⟨by rfl, ?_⟩) ?_ ?_
   rotate_left
   ·intro w'
    go_simp
    with_reducible rfl
   rotate_left
   ·exact zP
   refine pure_ (i := 5) (N := some 22) (v := ?_) (a' := ?_) laws_eqCubeS.m5 rfl rfl zA (fun _ _ _ h => h) (Or.inl ⟨by rfl, ?_⟩) ?_ ?_
   rotate_left
   ·intro w'
    go_simp
    with_reducible rfl
   rotate_left
   ·exact zP
   refine pure_ (i := 6) (N := some 23) (v := ?_) (a' := ?_) laws_eqCubeS.m6 rfl rfl zA (fun _ _ _ h => h) (Or.inl ⟨by rfl, ?_⟩) ?_ ?_
   rotate_left
   ·intro w'
    go_simp
    with_reducible rfl
   rotate_left
   ·exact zP
   refine take_ (i := 3) (N := some 20) (v := ?_) (a' := ?_) laws_eqCubeS.m7 rfl rfl (take_ofW HT_.out HW_.out (by kernel_rfl)) (fun _ _ _ h => h) (Or.inl ⟨by rfl, ?_⟩) hHeld ?_ ?_
   rotate_left
   ·rintro w' ⟨s0, s1, s2, s3, s4, s5⟩
    go_simp
    with_reducible rfl
   rotate_left
   ·exact zP
   refine take_ (i := 7) (N := some 24) (v := ?_) (a' := ?_) laws_eqCubeS.m8 rfl rfl (take_ofW HT_.out HW_.out (by kernel_rfl)) (fun _ _ _ h => h) (Or.inl ⟨by rfl, ?_⟩) hHeld ?_ ?_
   rotate_left
   ·rintro w' ⟨s0, s1, s2, s3, s4, s5⟩
    go_simp
    with_reducible rfl
   rotate_left
   ·exact zP
   refine one_ (i := 8) (N := some 25) laws_eqCubeS.m9 rfl rfl (one_of HT_.out (by kernel_rfl)) (by decide) (fun K hK => ?_)
   refine goes_ Try.func69 (by kernel_rfl) rfl #[.agg #[.int .i64 ((rd_T71 l0 x5_1).f0), .int .i64 ((rd_T71 l0 x5_1).f1), .int .i64 ((rd_T71 l0 x5_1).f2)], .agg #[.int .i64 ((rd_T71 l1 x5_1).f0), .int .i64 ((rd_T71 l1 x5_1).f1), .int .i64 ((rd_T71 l1 x5_1).f2)]] (by rfl) rfl rfl zL ?_
   with_reducible refine (laws_eqCube.calls ((rd_T71 l0 x5_1).f0) ((rd_T71 l0 x5_1).f1) ((rd_T71 l0 x5_1).f2) ((rd_T71 l1 x5_1).f0) ((rd_T71 l1 x5_1).f1) ((rd_T71 l1 x5_1).f2) true _ A7.out).mono ?_
   rintro e w10 ⟨rfl, hb⟩
   refine ⟨_, rfl, ?_⟩
   have n0_ := am (Bb6 zB hb)
   clear HB
   have HB := n0_
   clear n0_
   (try clear hb)
   (try clear hb2)
   (try clear hk)
   (try clear hi)
   refine hK.out _ _ ⟨(pc HB.out hw223_0), (pc HB.out hw223_1), (pc HB.out hw223_2), (pc HB.out hw224_0), (pc HB.out hw224_1), (pc HB.out hw224_2)⟩ (fun hHeld => ?_)
   clear hK K
   refine norm_ (a' := ?_) ?_ ?_
   rotate_left
   ·show Act.put _ (some 25) _ = _
    simp only [Act.put, sa, i64_w, i32_w]
    rfl
   refine pure_ (i := 9) (N := some 26) (v := ?_) (a' := ?_) laws_eqCubeS.m10 rfl rfl zA (fun _ _ _ h => h) (Or.inl ⟨by rfl, ?_⟩) ?_ ?_
   rotate_left
   ·intro w'
    go_simp
    with_reducible rfl
   rotate_left
   ·exact zP
   refine done_ (done_of HT_.out (by kernel_rfl)) ?_
   try go_wp2
   go_roundg k1
   case measure => have := HK1.out; omega
   case rel => exact ⟨(wrap64 (x5_1 + 1)), zS, H', ⟨by have := HK1.out; omega⟩, ⟨zB⟩⟩

end Go.Proofs.Ytjgnlakgojookaa.Q
