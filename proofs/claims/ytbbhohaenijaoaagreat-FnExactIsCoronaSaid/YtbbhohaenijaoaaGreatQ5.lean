/- Written by a program of this session (wip/tools/pp.py) out of the translation, with the kit's printer. -/
import Derived.Test.YtbbhohaenijaoaaGreatQ0
import Derived.Test.YtbbhohaenijaoaaGreatQ3
import Derived.Test.YtbbhohaenijaoaaGreatQ4
namespace Go.Proofs.YtbbhohaenijaoaaGreat.Q
open Go.RowKit Go.Proofs.YtbbhohaenijaoaaGreatW.PrintWords Go.Proofs.YtbbhohaenijaoaaGreatW.PrintLast Go.Proofs.YtbbhohaenijaoaaGreatW.PrintMore
attribute [local go_sem] max2_int min2_int max_two min_two max_three min_three max_four min_four
set_option linter.unusedVariables false
set_option linter.unusedSimpArgs false

/-! ### spec_l26Ring: function 14 -/
abbrev spec_l26Ring.m0 : Array Bool := #[z',z',z',z',z',z',z',z',z',z',z',z',z',z',z',z',z',z',z',z',z']
abbrev spec_l26Ring.m1 : Array Bool := #[o',z',z',z',z',z',z',z',z',z',z',z',z',z',z',z',z',z',z',z',z']
abbrev spec_l26Ring.m2 : Array Bool := #[o',o',z',z',z',z',z',z',z',z',z',z',z',z',z',z',z',z',z',z',z']
abbrev spec_l26Ring.m3 : Array Bool := #[o',o',o',z',z',z',z',z',z',z',z',z',z',z',z',z',z',z',z',z',z']
abbrev spec_l26Ring.m4 : Array Bool := #[o',o',o',o',z',z',z',z',z',z',z',z',z',z',z',z',z',z',z',z',z']
abbrev spec_l26Ring.m5 : Array Bool := #[o',o',o',o',z',o',z',z',z',z',z',z',z',z',z',z',z',z',z',z',z']
abbrev spec_l26Ring.m6 : Array Bool := #[o',o',o',o',z',o',o',z',z',z',z',z',z',z',z',z',z',z',z',z',z']
abbrev spec_l26Ring.m7 : Array Bool := #[o',o',o',o',z',o',o',z',z',o',z',z',z',z',z',z',z',z',z',z',z']
abbrev spec_l26Ring.m8 : Array Bool := #[o',o',o',o',z',o',o',z',z',o',o',z',z',z',z',z',z',z',z',z',z']
abbrev spec_l26Ring.m9 : Array Bool := #[o',o',o',o',z',o',o',z',z',o',o',o',z',z',z',z',z',z',z',z',z']
abbrev spec_l26Ring.m10 : Array Bool := #[o',o',o',o',z',o',o',z',z',o',o',o',o',z',z',z',z',z',z',z',z']
abbrev spec_l26Ring.m11 : Array Bool := #[o',o',o',o',z',o',o',z',z',o',o',o',o',z',o',z',z',z',z',z',z']
abbrev spec_l26Ring.m12 : Array Bool := #[o',o',o',o',z',o',o',z',z',o',o',o',o',z',o',o',z',z',z',z',z']
abbrev spec_l26Ring.m13 : Array Bool := #[o',o',o',o',o',o',o',z',z',o',o',o',o',z',o',o',z',z',z',z',z']
abbrev spec_l26Ring.m14 : Array Bool := #[o',o',o',o',o',o',o',o',z',o',o',o',o',z',o',o',z',z',z',z',z']
abbrev spec_l26Ring.m15 : Array Bool := #[o',o',o',o',o',o',o',o',o',o',o',o',o',z',o',o',z',z',z',z',z']
abbrev spec_l26Ring.m16 : Array Bool := #[o',o',o',o',o',o',o',o',o',o',o',o',o',o',o',o',z',z',z',z',z']
abbrev spec_l26Ring.m17 : Array Bool := #[o',o',o',o',o',o',o',o',o',o',o',o',o',o',o',o',o',z',z',z',z']
abbrev spec_l26Ring.m18 : Array Bool := #[o',o',o',o',o',o',o',o',o',o',o',o',o',o',o',o',o',o',z',z',z']
abbrev spec_l26Ring.m19 : Array Bool := #[o',o',o',o',o',o',o',o',o',o',o',o',o',o',o',o',o',o',o',z',z']
abbrev spec_l26Ring.m20 : Array Bool := #[o',o',o',o',o',o',o',o',o',o',o',o',o',o',o',o',o',o',o',o',z']
abbrev spec_l26Ring.m21 : Array Bool := #[o',o',o',o',o',o',o',o',o',o',o',o',o',o',o',o',o',o',o',o',o']
mutual
def spec_l26Ring.l0 : Nat → List (S44) → List (S44) → Int → Option ((List (S44)))
 | 0, _, _, _ => none
 | k + 1, x0, x3, x4 => if x4 < (x0.length : Int) then (spec_l26Ring.l1 k x0 x3 x4 0) else (some x3)
def spec_l26Ring.l1 : Nat → List (S44) → List (S44) → Int → Int → Option ((List (S44)))
 | 0, _, _, _, _ => none
 | k + 1, x0, x3, x4, x5 => if x5 < 9 then (if 0 ≤ x4 then (if x4 < (x0.length : Int) then ((spec_l02Index.f k x0 (wrap64 ((wrap64 (((rd_T44 x0 x4).f0) + (Int.tmod x5 3))) - 1)) (wrap64 ((wrap64 (((rd_T44 x0 x4).f1) + (wrap64 (Int.tdiv x5 3)))) - 1))).bind fun t201 => (if t201 < 0 then ((spec_l02Index.f k x3 (wrap64 ((wrap64 (((rd_T44 x0 x4).f0) + (Int.tmod x5 3))) - 1)) (wrap64 ((wrap64 (((rd_T44 x0 x4).f1) + (wrap64 (Int.tdiv x5 3)))) - 1))).bind fun t202 => (if t202 < 0 then ((spec_l02Insert.f k x3 (wrap64 ((wrap64 (((rd_T44 x0 x4).f0) + (Int.tmod x5 3))) - 1)) (wrap64 ((wrap64 (((rd_T44 x0 x4).f1) + (wrap64 (Int.tdiv x5 3)))) - 1))).bind fun t203 => (spec_l26Ring.l1 k x0 t203 x4 (wrap64 (x5 + 1)))) else (spec_l26Ring.l1 k x0 x3 x4 (wrap64 (x5 + 1))))) else (spec_l26Ring.l1 k x0 x3 x4 (wrap64 (x5 + 1))))) else (none)) else (none)) else (spec_l26Ring.l0 k x0 x3 (wrap64 (x4 + 1)))
end
def spec_l26Ring.f (k : Nat) (l0 : List (S44)) : Option ((List (S44))) := spec_l26Ring.l0 k l0 (([] : List (S44))) 0
theorem spec_l26Ring.mono_l : ∀ k, (∀ y0 y1 y2, LeO (spec_l26Ring.l0 k y0 y1 y2) (spec_l26Ring.l0 (k + 1) y0 y1 y2)) ∧ (∀ y0 y1 y2 y3, LeO (spec_l26Ring.l1 k y0 y1 y2 y3) (spec_l26Ring.l1 (k + 1) y0 y1 y2 y3))
 | 0 => ⟨fun _ _ _ r h => by simp [spec_l26Ring.l0] at h, fun _ _ _ _ r h => by simp [spec_l26Ring.l1] at h⟩
 | k + 1 => by
  obtain ⟨ih0, ih1⟩ := spec_l26Ring.mono_l k
  refine ⟨?_, ?_⟩
  ·intro y0 y1 y2
   unfold spec_l26Ring.l0
   with_reducible repeat' first | exact ih0 _ _ _ | exact ih1 _ _ _ _ | exact spec_l02Index.mono _ _ _ _ | exact spec_l02Insert.mono _ _ _ _ | exact LeO.refl _ | exact LeO.none _ | refine LeO.ite ?_ ?_ | refine LeO.bind ?_ (fun _ => ?_)
  ·intro y0 y1 y2 y3
   unfold spec_l26Ring.l1
   with_reducible repeat' first | exact ih0 _ _ _ | exact ih1 _ _ _ _ | exact spec_l02Index.mono _ _ _ _ | exact spec_l02Insert.mono _ _ _ _ | exact LeO.refl _ | exact LeO.none _ | refine LeO.ite ?_ ?_ | refine LeO.bind ?_ (fun _ => ?_)
theorem spec_l26Ring.mono : ∀ a0 k, LeO (spec_l26Ring.f k a0) (spec_l26Ring.f (k + 1) a0) := by
 intro a0 k
 obtain ⟨ih0, ih1⟩ := spec_l26Ring.mono_l k
 unfold spec_l26Ring.f
 with_reducible repeat' first | exact ih0 _ _ _ | exact ih1 _ _ _ _ | exact spec_l02Index.mono _ _ _ _ | exact spec_l02Insert.mono _ _ _ _ | exact LeO.refl _ | exact LeO.none _ | refine LeO.ite ?_ ?_ | refine LeO.bind ?_ (fun _ => ?_)
def spec_l26Ring.T8 : Bool × List (List Nat × List Nat) := (true, [([], []), ([], []), ([0, 1], [0, 1]), ([2], [2]), ([3], [3]), ([], []), ([5], [5]), ([4, 6], [4, 6]), ([7], [7]), ([], []), ([], []), ([9, 10], [9, 10]), ([11], [11]), ([12], [12]), ([], []), ([14], [14]), ([13, 15], [13, 15]), ([16], [16]), ([8, 17], [8, 17]), ([], []), ([19, 18, 0, 1, 2, 3, 4, 5, 6, 7, 8, 9, 10, 11, 12, 13, 14, 15, 16, 17, 18, 19], [18, 19])])
def spec_l26Ring.B8 : List Nat := [0, 0, 3, 7, 15, 0, 32, 127, 255, 0, 0, 1536, 3584, 7680, 0, 16384, 65024, 130560, 262143, 0, 1048575]
theorem spec_l26Ring.tab8 : rtab .any (opsOf Tryz.f14 8) = spec_l26Ring.T8 := by kernel_rfl
theorem spec_l26Ring.bits8 : waitsOk spec_l26Ring.T8.2 spec_l26Ring.B8 = true := by kernel_rfl
set_option maxHeartbeats 8000000 in
set_option maxRecDepth 100000 in
theorem spec_l26Ring.calls (k : Nat) (A0 : Option Addr) (c0 : Nat) (l0 : List (S44)) (r : List (S44)) (w : World) (hr0 : Kd.C k44 w A0 l0.length l0) (hc0 : l0.length ≤ c0) (h : spec_l26Ring.f k l0 = some r) :
  Calls Tryz.prog 14 #[.slice A0 l0.length c0] w fun e w' => ∃ v0_ : Value, e = .returned (v0_) ∧ Kd.R k44 44 w' w.heap.size (fun _ => True) v0_ r ∧ Below w.heap.size w w' := by
 have hu44 := Tryz.underlying44
 have HR0 := am hr0
 have HC0 := am hc0
 clear hr0 hc0
 have HB := am (Below.refl w.heap.size w)
 have H : (spec_l26Ring.l0 k l0 (([] : List (S44))) 0) = some r := h
 clear h
 obtain ⟨y195, hy195⟩ : ∃ y_ : List (S44), y_ = (([] : List (S44))) := ⟨_, rfl⟩
 replace H : (spec_l26Ring.l0 k l0 y195 0) = some r := by first | (rw [hy195]; with_reducible exact H) | (have H2_ := (Option.bind_some _ _).symm.trans H; rw [hy195]; with_reducible exact H2_) | (have H2_ := (Option.bind_some _ _).symm.trans H; with_reducible exact H2_) | with_reducible exact H | (rw [hy195]; exact H) | exact H
 have Ny195 := am hy195
 clear hy195
 have H' := am H
 clear H
 go_enter Tryz.func14, Tryz.ntmps14
 go_wp2_with (first | ((with_reducible refine gate_dst (N := 7) rfl ?_); refine Kd.R_lit k44 _ 44 ?hg (N := 7) ?hd (xs := ([] : List (S44))) (inner := []) (ok := fun _ => True) (okp := fun _ => True) ?hr ?hp (fun _ hk => hk) trivial (Below.refl _ _) (Nat.le_refl _) (by simp) ?_; (case hd => rfl); (case hg => rfl); (case hr => first | (go_simp; done) | (go_simp; rfl)); (case hp => exact (Reps.none _ _)); intro v196 w2 ho3 hb hg_ hnew_; clear hg_ hnew_; (first | rw [← Ny195.out] at ho3 | (simp only [Int.reduceToNat] at ho3; rw [← Ny195.out] at ho3)); have n0_ := am (Kd.R_lower ho3 (Bb5 zB)); have n1_ := am (Bb6 zB hb); clear HB; have HO197 := n0_; have HB := n1_; clear n0_ n1_; clear hb ho3))
 go_loopg [3, 4] k (fun kq v3 v4 w' => ∃ (x3_1 : List (S44)) (x4_1 : Int), v4 = .int .i64 x4_1 ∧ Aside0 (spec_l26Ring.l0 kq l0 x3_1 x4_1 = some r) ∧ Aside0 (kq ≤ k) ∧ Aside0 (Kd.R k44 44 w' w.heap.size (fun _ => True) v3 x3_1) ∧ Aside0 (Below w.heap.size w w'))
 case atStart => exact ⟨(y195), (0), zS, H', ⟨Nat.le_refl _⟩, ⟨zR HO197⟩, ⟨zB⟩⟩
 case round =>
  clear H'
  try clear c1
  try clear p2
  obtain ⟨x3_1, x4_1, rfl, HA, HK1, HO_3, HB⟩ := hrel
  cases gk with
  | zero => exact absurd HA.out (by simp [spec_l26Ring.l0])
  | succ k1 =>
   have H := HA.out
   clear HA
   simp only [spec_l26Ring.l0] at H
   by_cases c4 : x4_1 < (l0.length : Int)
   rotate_left
   ·rw [if_neg c4] at H
    have c4b0 : decide (x4_1 < (l0.length : Int)) = false := decide_eq_false c4
    clear c4
    obtain rfl := oi H
    go_wp2
    go_ret
    exact ⟨_, zE, by (with_reducible repeat (first | apply Kd.R_alloc | apply Kd.R_drewN | apply Kd.R_drew)); exact HO_3.out, zB⟩
   rw [if_pos c4] at H
   have c4b0 : decide (x4_1 < (l0.length : Int)) = true := decide_eq_true c4
   clear c4
   have H' := am H
   clear H
   go_wp2
   go_loopg [3, 5] k1 (fun kq v3 v5 w' => ∃ (x3_2 : List (S44)) (x5_2 : Int), v5 = .int .i64 x5_2 ∧ Aside0 (spec_l26Ring.l1 kq l0 x3_2 x4_1 x5_2 = some r) ∧ Aside0 (kq ≤ k1) ∧ Aside0 (Kd.R k44 44 w' w.heap.size (fun _ => True) v3 x3_2) ∧ Aside0 (Below w.heap.size w w'))
   case atStart => exact ⟨(x3_1), (0), zS, H', ⟨Nat.le_refl _⟩, ⟨zR HO_3⟩, ⟨zB⟩⟩
   case round =>
    clear H'
    try clear c1
    try clear p2
    try clear c4
    try clear c4b0
    try clear p2
    obtain ⟨x3_2, x5_2, rfl, HA, HK2, HO_3, HB⟩ := hrel
    cases gk with
    | zero => exact absurd HA.out (by simp [spec_l26Ring.l1])
    | succ k2 =>
     have H := HA.out
     clear HA
     simp only [spec_l26Ring.l1] at H
     by_cases c5 : x5_2 < 9
     rotate_left
     ·rw [if_neg c5] at H
      have c5b0 : decide (x5_2 < 9) = false := decide_eq_false c5
      clear c5
      have H' := am H
      clear H
      go_wp2
      go_roundg k2
      case measure => have := HK1.out; have := HK2.out; omega
      case rel => exact ⟨(x3_2), (wrap64 (x4_1 + 1)), zS, H', ⟨by have := HK1.out; have := HK2.out; omega⟩, ⟨zR HO_3⟩, ⟨zB⟩⟩
     rw [if_pos c5] at H
     have c5b0 : decide (x5_2 < 9) = true := decide_eq_true c5
     clear c5
     by_cases c6 : 0 ≤ x4_1
     rotate_left
     ·rw [if_neg c6] at H
      exact absurd H (by simp)
     rw [if_pos c6] at H
     have c6b0 : decide (0 ≤ x4_1) = true := decide_eq_true c6
     clear c6
     by_cases c7 : x4_1 < (l0.length : Int)
     rotate_left
     ·rw [if_neg c7] at H
      exact absurd H (by simp)
     rw [if_pos c7] at H
     have c7b0 : decide (x4_1 < (l0.length : Int)) = true := decide_eq_true c7
     clear c7
     replace H := ob H
     obtain ⟨t201, A80, H⟩ := H
     (try dsimp only at H)
     have A8 := am A80
     clear A80
     by_cases c9 : t201 < 0
     rotate_left
     ·rw [if_neg c9] at H
      have c9b0 : decide (t201 < 0) = false := decide_eq_false c9
      clear c9
      have H' := am H
      clear H
      try go_wp2
      have n0_ := am (Kd.R_drew HO_3.out)
      have n1_ := am (Bb3 HB.out)
      clear HO_3
      clear HB
      have HO_3 := n0_
      have HB := n1_
      clear n0_ n1_
      have p198 : 0 ≤ (x4_1 : Int) := zD
      have q198 : x4_1 < (l0.length : Int) := zD
      obtain ⟨ad198, e198, hx198_0, hx198_1⟩ := at_T44 HR0.out x4_1 p198 q198
      have hw198_1 := hx198_1
      have hw198_0 := hx198_0
      cases e198
      replace hx198_0 := pc HB.out hx198_0
      replace hx198_1 := pc HB.out hx198_1
      replace p198 := eq_true p198
      replace q198 := eq_true q198
      have p199 : 0 ≤ (x4_1 : Int) := zD
      have q199 : x4_1 < (l0.length : Int) := zD
      obtain ⟨ad199, e199, hx199_0, hx199_1⟩ := at_T44 HR0.out x4_1 p199 q199
      have hw199_1 := hx199_1
      have hw199_0 := hx199_0
      obtain rfl : ad198 = ad199 := (by injection e199)
      replace hx199_0 := pc HB.out hx199_0
      replace hx199_1 := pc HB.out hx199_1
      replace p199 := eq_true p199
      replace q199 := eq_true q199
      refine start_ (n := 21) (S := fun w' => w'.cell? (ad198.add ((x4_1).toNat * 2)) = some (.int .i64 ((rd_T44 l0 x4_1).f0)) ∧ w'.cell? ⟨(ad198.add ((x4_1).toNat * 2)).block, (ad198.add ((x4_1).toNat * 2)).off + 1, none⟩ = some (.int .i64 ((rd_T44 l0 x4_1).f1)) ∧ w'.cell? (ad198.add ((x4_1).toNat * 2)) = some (.int .i64 ((rd_T44 l0 x4_1).f0)) ∧ w'.cell? ⟨(ad198.add ((x4_1).toNat * 2)).block, (ad198.add ((x4_1).toNat * 2)).off + 1, none⟩ = some (.int .i64 ((rd_T44 l0 x4_1).f1))) (ds := []) spec_l26Ring.m0 (by kernel_rfl) rfl rfl ⟨(pc HB.out hw198_0), (pc HB.out hw198_1), (pc HB.out hw199_0), (pc HB.out hw199_1)⟩ (fun hHeld => ?_); refine with_tabW spec_l26Ring.tab8 spec_l26Ring.bits8 (fun HT_ HW_ => ?_)
      generalize wr.drew = w33 at HO_3 HB hx198_0 hx198_1 hx199_0 hx199_1 hHeld ⊢
      refine pure_ (i := 0) (N := some 18) (v := ?_) (a' := ?_) spec_l26Ring.m1 rfl rfl zA (fun _ _ _ h => h) (Or.inl ⟨by rfl, ?_⟩) ?_ ?_
      rotate_left
      ·intro w'
       go_simp
       rfl
      rotate_left
      ·exact zP
      refine pure_ (i := 1) (N := some 19) (v := ?_) (a' := ?_) spec_l26Ring.m2 rfl rfl zA (fun _ _ _ h => h) (Or.inl ⟨by rfl, ?_⟩) ?_ ?_
      rotate_left
      ·intro w'
       go_simp
       rfl
      rotate_left
      ·exact zP
      refine pure_ (i := 2) (N := some 20) (v := ?_) (a' := ?_) spec_l26Ring.m3 rfl rfl zA (fun _ _ _ h => h) (Or.inl ⟨by rfl, ?_⟩) ?_ ?_
      rotate_left
      ·intro w'
       go_simp
       rfl
      rotate_left
      ·exact zP
      refine pure_ (i := 3) (N := some 21) (v := ?_) (a' := ?_) spec_l26Ring.m4 rfl rfl zA (fun _ _ _ h => h) (Or.inl ⟨by rfl, ?_⟩) ?_ ?_
      rotate_left
      ·intro w'
       go_simp
       rfl
      rotate_left
      ·exact zP
      refine pure_ (i := 5) (N := some 23) (v := ?_) (a' := ?_) spec_l26Ring.m5 rfl rfl zA (fun _ _ _ h => h) (Or.inl ⟨by rfl, ?_⟩) ?_ ?_
      rotate_left
      ·intro w'
       go_simp
       rfl
      rotate_left
      ·exact zP
      refine pure_ (i := 6) (N := some 24) (v := ?_) (a' := ?_) spec_l26Ring.m6 rfl rfl zA (fun _ _ _ h => h) (Or.inl ⟨by rfl, ?_⟩) ?_ ?_
      rotate_left
      ·intro w'
       go_simp
       rfl
      rotate_left
      ·exact zP
      refine pure_ (i := 9) (N := some 27) (v := ?_) (a' := ?_) spec_l26Ring.m7 rfl rfl zA (fun _ _ _ h => h) (Or.inl ⟨by rfl, ?_⟩) ?_ ?_
      rotate_left
      ·intro w'
       go_simp
       rfl
      rotate_left
      ·exact zP
      refine pure_ (i := 10) (N := some 28) (v := ?_) (a' := ?_) spec_l26Ring.m8 rfl rfl zA (fun _ _ _ h => h) (Or.inl ⟨by rfl, ?_⟩) ?_ ?_
      rotate_left
      ·intro w'
       go_simp
       rfl
      rotate_left
      ·exact zP
      refine pure_ (i := 11) (N := some 29) (v := ?_) (a' := ?_) spec_l26Ring.m9 rfl rfl zA (fun _ _ _ h => h) (Or.inl ⟨by rfl, ?_⟩) ?_ ?_
      rotate_left
      ·intro w'
       go_simp
       rfl
      rotate_left
      ·exact zP
      refine pure_ (i := 12) (N := some 30) (v := ?_) (a' := ?_) spec_l26Ring.m10 rfl rfl zA (fun _ _ _ h => h) (Or.inl ⟨by rfl, ?_⟩) ?_ ?_
      rotate_left
      ·intro w'
       go_simp
       rfl
      rotate_left
      ·exact zP
      refine pure_ (i := 14) (N := some 32) (v := ?_) (a' := ?_) spec_l26Ring.m11 rfl rfl zA (fun _ _ _ h => h) (Or.inl ⟨by rfl, ?_⟩) ?_ ?_
      rotate_left
      ·intro w'
       go_simp
       rfl
      rotate_left
      ·exact zP
      refine pure_ (i := 15) (N := some 33) (v := ?_) (a' := ?_) spec_l26Ring.m12 rfl rfl zA (fun _ _ _ h => h) (Or.inl ⟨by rfl, ?_⟩) ?_ ?_
      rotate_left
      ·intro w'
       go_simp
       rfl
      rotate_left
      ·exact zP
      refine take_ (i := 4) (N := some 22) (v := ?_) (a' := ?_) spec_l26Ring.m13 rfl rfl (take_ofW HT_.out HW_.out (by kernel_rfl)) (fun _ _ _ h => h) (Or.inl ⟨by rfl, ?_⟩) hHeld ?_ ?_
      rotate_left
      ·rintro w' ⟨s0, s1, s2, s3⟩
       go_simp
       rfl
      rotate_left
      ·exact zP
      refine pure_ (i := 7) (N := some 25) (v := ?_) (a' := ?_) spec_l26Ring.m14 rfl rfl zA (fun _ _ _ h => h) (Or.inl ⟨by rfl, ?_⟩) ?_ ?_
      rotate_left
      ·intro w'
       go_simp
       rfl
      rotate_left
      ·exact zP
      refine pure_ (i := 8) (N := some 26) (v := ?_) (a' := ?_) spec_l26Ring.m15 rfl rfl zA (fun _ _ _ h => h) (Or.inl ⟨by rfl, ?_⟩) ?_ ?_
      rotate_left
      ·intro w'
       go_simp
       rfl
      rotate_left
      ·exact zP
      refine take_ (i := 13) (N := some 31) (v := ?_) (a' := ?_) spec_l26Ring.m16 rfl rfl (take_ofW HT_.out HW_.out (by kernel_rfl)) (fun _ _ _ h => h) (Or.inl ⟨by rfl, ?_⟩) hHeld ?_ ?_
      rotate_left
      ·rintro w' ⟨s0, s1, s2, s3⟩
       go_simp
       rfl
      rotate_left
      ·exact zP
      refine pure_ (i := 16) (N := some 34) (v := ?_) (a' := ?_) spec_l26Ring.m17 rfl rfl zA (fun _ _ _ h => h) (Or.inl ⟨by rfl, ?_⟩) ?_ ?_
      rotate_left
      ·intro w'
       go_simp
       rfl
      rotate_left
      ·exact zP
      refine pure_ (i := 17) (N := some 35) (v := ?_) (a' := ?_) spec_l26Ring.m18 rfl rfl zA (fun _ _ _ h => h) (Or.inl ⟨by rfl, ?_⟩) ?_ ?_
      rotate_left
      ·intro w'
       go_simp
       rfl
      rotate_left
      ·exact zP
      refine pure_ (i := 18) (N := some 36) (v := ?_) (a' := ?_) spec_l26Ring.m19 rfl rfl zA (fun _ _ _ h => h) (Or.inl ⟨by rfl, ?_⟩) ?_ ?_
      rotate_left
      ·intro w'
       go_simp
       rfl
      rotate_left
      ·exact zP
      refine one_ (i := 19) (N := some 6) spec_l26Ring.m20 rfl rfl (one_of HT_.out (by kernel_rfl)) (by decide) (fun K hK => ?_)
      refine box_step ?hg (N := 6) ?hd (cs := #[.int .i64 0, .int .i64 0]) (t := 44) ?hr ?_; (case hd => rfl); (case hg => rfl); (case hr => first | (go_simp; done) | (go_simp; rfl))
      intro gb200 hg w34 hbox hb
      have n0_ := am (Kd.R_below (Kd.R_elderB (zR HO_3) gb200 (Nat.le_of_eq hg.symm)) hb)
      have n1_ := am (Bb6 zB hb)
      have n2_ := am (hbox)
      have n3_ := am ((by rw [hg]; exact (Bb5 zB) : w.heap.size ≤ gb200))
      have n4_ := am ((by rw [hg]; exact (Bb5 zB) : w.heap.size ≤ gb200))
      clear HO_3
      clear HB
      have HO_3 := n0_
      have HB := n1_
      have BK200 := n2_
      have GW200 := n3_
      have GE200 := n4_
      clear n0_ n1_ n2_ n3_ n4_
      clear hb hbox hg
      refine hK.out _ _ ⟨(pc HB.out hw198_0), (pc HB.out hw198_1), (pc HB.out hw199_0), (pc HB.out hw199_1)⟩ (fun hHeld => ?_)
      clear hK K
      refine norm_ (a' := ?_) ?_ ?_
      rotate_left
      ·show Act.put _ (some 6) _ = _
       simp only [Act.put, sa, i64_w, i32_w]
       rfl
      refine one_ (i := 20) (N := none) spec_l26Ring.m21 rfl rfl (one_of HT_.out (by kernel_rfl)) (by decide) (fun K hK => ?_)
      have hs35 : w34.cell? ⟨gb200, 0, none⟩ = some (.int .i64 0) := (kc BK200.out 0).trans rfl
      have hfs35 := kf BK200.out 0
      have hs36 : w34.cell? ⟨gb200, 1, none⟩ = some (.int .i64 0) := (kc BK200.out 1).trans rfl
      have hfs36 := kf BK200.out 1
      refine skip_ (w1 := ?_) (by rfl) rfl ?_ ?_
      rotate_left
      ·go_simp
       rfl
      refine hK.out _ _ ⟨((cell_far (p := ⟨gb200, _, none⟩) (by first | exact nl (Nat.lt_of_lt_of_le (by have := World.block_lt_of_cell? _ _ hw198_0; first | rwa [add_block] at this | exact this) GW200.out) | (rw [add_block]; exact nl (Nat.lt_of_lt_of_le (by have := World.block_lt_of_cell? _ _ hw198_0; first | rwa [add_block] at this | exact this) GW200.out)) | (show (Addr.add _ _).block ≠ _; rw [add_block]; exact nl (Nat.lt_of_lt_of_le (by have := World.block_lt_of_cell? _ _ hw198_0; first | rwa [add_block] at this | exact this) GW200.out)) | (dsimp only; exact nl (Nat.lt_of_lt_of_le (by have := World.block_lt_of_cell? _ _ hw198_0; first | rwa [add_block] at this | exact this) GW200.out))) _).trans (((cell_far (p := ⟨gb200, _, none⟩) (by first | exact nl (Nat.lt_of_lt_of_le (by have := World.block_lt_of_cell? _ _ hw198_0; first | rwa [add_block] at this | exact this) GW200.out) | (rw [add_block]; exact nl (Nat.lt_of_lt_of_le (by have := World.block_lt_of_cell? _ _ hw198_0; first | rwa [add_block] at this | exact this) GW200.out)) | (show (Addr.add _ _).block ≠ _; rw [add_block]; exact nl (Nat.lt_of_lt_of_le (by have := World.block_lt_of_cell? _ _ hw198_0; first | rwa [add_block] at this | exact this) GW200.out)) | (dsimp only; exact nl (Nat.lt_of_lt_of_le (by have := World.block_lt_of_cell? _ _ hw198_0; first | rwa [add_block] at this | exact this) GW200.out))) _).trans (hHeld.1)))), ((cell_far (p := ⟨gb200, _, none⟩) (by first | exact nl (Nat.lt_of_lt_of_le (by have := World.block_lt_of_cell? _ _ hw198_1; first | rwa [add_block] at this | exact this) GW200.out) | (rw [add_block]; exact nl (Nat.lt_of_lt_of_le (by have := World.block_lt_of_cell? _ _ hw198_1; first | rwa [add_block] at this | exact this) GW200.out)) | (show (Addr.add _ _).block ≠ _; rw [add_block]; exact nl (Nat.lt_of_lt_of_le (by have := World.block_lt_of_cell? _ _ hw198_1; first | rwa [add_block] at this | exact this) GW200.out)) | (dsimp only; exact nl (Nat.lt_of_lt_of_le (by have := World.block_lt_of_cell? _ _ hw198_1; first | rwa [add_block] at this | exact this) GW200.out))) _).trans (((cell_far (p := ⟨gb200, _, none⟩) (by first | exact nl (Nat.lt_of_lt_of_le (by have := World.block_lt_of_cell? _ _ hw198_1; first | rwa [add_block] at this | exact this) GW200.out) | (rw [add_block]; exact nl (Nat.lt_of_lt_of_le (by have := World.block_lt_of_cell? _ _ hw198_1; first | rwa [add_block] at this | exact this) GW200.out)) | (show (Addr.add _ _).block ≠ _; rw [add_block]; exact nl (Nat.lt_of_lt_of_le (by have := World.block_lt_of_cell? _ _ hw198_1; first | rwa [add_block] at this | exact this) GW200.out)) | (dsimp only; exact nl (Nat.lt_of_lt_of_le (by have := World.block_lt_of_cell? _ _ hw198_1; first | rwa [add_block] at this | exact this) GW200.out))) _).trans (hHeld.2.1)))), ((cell_far (p := ⟨gb200, _, none⟩) (by first | exact nl (Nat.lt_of_lt_of_le (by have := World.block_lt_of_cell? _ _ hw199_0; first | rwa [add_block] at this | exact this) GW200.out) | (rw [add_block]; exact nl (Nat.lt_of_lt_of_le (by have := World.block_lt_of_cell? _ _ hw199_0; first | rwa [add_block] at this | exact this) GW200.out)) | (show (Addr.add _ _).block ≠ _; rw [add_block]; exact nl (Nat.lt_of_lt_of_le (by have := World.block_lt_of_cell? _ _ hw199_0; first | rwa [add_block] at this | exact this) GW200.out)) | (dsimp only; exact nl (Nat.lt_of_lt_of_le (by have := World.block_lt_of_cell? _ _ hw199_0; first | rwa [add_block] at this | exact this) GW200.out))) _).trans (((cell_far (p := ⟨gb200, _, none⟩) (by first | exact nl (Nat.lt_of_lt_of_le (by have := World.block_lt_of_cell? _ _ hw199_0; first | rwa [add_block] at this | exact this) GW200.out) | (rw [add_block]; exact nl (Nat.lt_of_lt_of_le (by have := World.block_lt_of_cell? _ _ hw199_0; first | rwa [add_block] at this | exact this) GW200.out)) | (show (Addr.add _ _).block ≠ _; rw [add_block]; exact nl (Nat.lt_of_lt_of_le (by have := World.block_lt_of_cell? _ _ hw199_0; first | rwa [add_block] at this | exact this) GW200.out)) | (dsimp only; exact nl (Nat.lt_of_lt_of_le (by have := World.block_lt_of_cell? _ _ hw199_0; first | rwa [add_block] at this | exact this) GW200.out))) _).trans (hHeld.2.2.1)))), ((cell_far (p := ⟨gb200, _, none⟩) (by first | exact nl (Nat.lt_of_lt_of_le (by have := World.block_lt_of_cell? _ _ hw199_1; first | rwa [add_block] at this | exact this) GW200.out) | (rw [add_block]; exact nl (Nat.lt_of_lt_of_le (by have := World.block_lt_of_cell? _ _ hw199_1; first | rwa [add_block] at this | exact this) GW200.out)) | (show (Addr.add _ _).block ≠ _; rw [add_block]; exact nl (Nat.lt_of_lt_of_le (by have := World.block_lt_of_cell? _ _ hw199_1; first | rwa [add_block] at this | exact this) GW200.out)) | (dsimp only; exact nl (Nat.lt_of_lt_of_le (by have := World.block_lt_of_cell? _ _ hw199_1; first | rwa [add_block] at this | exact this) GW200.out))) _).trans (((cell_far (p := ⟨gb200, _, none⟩) (by first | exact nl (Nat.lt_of_lt_of_le (by have := World.block_lt_of_cell? _ _ hw199_1; first | rwa [add_block] at this | exact this) GW200.out) | (rw [add_block]; exact nl (Nat.lt_of_lt_of_le (by have := World.block_lt_of_cell? _ _ hw199_1; first | rwa [add_block] at this | exact this) GW200.out)) | (show (Addr.add _ _).block ≠ _; rw [add_block]; exact nl (Nat.lt_of_lt_of_le (by have := World.block_lt_of_cell? _ _ hw199_1; first | rwa [add_block] at this | exact this) GW200.out)) | (dsimp only; exact nl (Nat.lt_of_lt_of_le (by have := World.block_lt_of_cell? _ _ hw199_1; first | rwa [add_block] at this | exact this) GW200.out))) _).trans (hHeld.2.2.2))))⟩ (fun hHeld => ?_)
      clear hK K
      refine done_ (done_of HT_.out (by kernel_rfl)) ?_
      have hcz37_0 : w34.cell? ⟨gb200, 0, none⟩ = some (.int .i64 0) := (kc BK200.out 0).trans rfl
      have hcz37_1 : w34.cell? ⟨gb200, 1, none⟩ = some (.int .i64 0) := (kc BK200.out 1).trans rfl
      have hfz37_0 := kf BK200.out 0
      have hfz37_1 := kf BK200.out 1
      try go_wp2_with (first | ((with_reducible refine gate_callee (f := 25) rfl ?_); refine goesL_ (some 39) rfl rfl Tryz.func25 (by kernel_rfl) rfl #[.slice (some ad198) l0.length c0, .agg #[.int .i64 (wrap64 ((wrap64 (((rd_T44 l0 x4_1).f0) + (Int.tmod x5_2 3))) - 1)), .int .i64 (wrap64 ((wrap64 (((rd_T44 l0 x4_1).f1) + (wrap64 (Int.tdiv x5_2 3)))) - 1))]] rfl zL ?_; (with_reducible refine (spec_l02Index.calls k2 _ _ l0 (wrap64 ((wrap64 (((rd_T44 l0 x4_1).f0) + (Int.tmod x5_2 3))) - 1)) (wrap64 ((wrap64 (((rd_T44 l0 x4_1).f1) + (wrap64 (Int.tdiv x5_2 3)))) - 1)) t201 _ ?side1 ?side2 A8.out).mono ?_); (case side1 => exact Kd.C_below HR0.out (by repeat (first | (with_reducible first | exact HB.out | apply Bb1 | apply Bb2 | apply Bb3 | refine Bb4 ?_ GE200.out) | exact HB.out))); (case side2 => exact HC0.out); rintro e w38 ⟨rfl, hb⟩; refine ⟨_, rfl, ?_⟩; have n0_ := am (Kd.R_below (by (with_reducible repeat (first | apply Kd.R_alloc | apply Kd.R_drewN | apply Kd.R_drew)); exact (Kd.R_mono (Kd.R_far (p := ⟨gb200, 1, none⟩) (Kd.R_far (p := ⟨gb200, 0, none⟩) (Kd.R_mono HO_3.out (fun k_ hk => (⟨hk, hk.2⟩ : _ ∧ k_ ≠ gb200))) (fun _ hk => hk.2) (.int .i64 (wrap64 ((wrap64 (((rd_T44 l0 x4_1).f0) + (Int.tmod x5_2 3))) - 1)))) (fun _ hk => hk.2) (.int .i64 (wrap64 ((wrap64 (((rd_T44 l0 x4_1).f1) + (wrap64 (Int.tdiv x5_2 3)))) - 1)))) (fun _ h_ => h_.1))) hb); have n1_ := am (Bk4 (g := gb200) (o := .cells #[.int .i64 (wrap64 ((wrap64 (((rd_T44 l0 x4_1).f0) + (Int.tmod x5_2 3))) - 1)), .int .i64 (wrap64 ((wrap64 (((rd_T44 l0 x4_1).f1) + (wrap64 (Int.tdiv x5_2 3)))) - 1))] 44 (0, 0)) (by (with_reducible repeat (first | refine Bk2 ?_ _ | refine Bk3 ?_ | refine Bk1 ?_ _)); refine blk_put (cs := #[.int .i64 (wrap64 ((wrap64 (((rd_T44 l0 x4_1).f0) + (Int.tmod x5_2 3))) - 1)), .int .i64 0]) ?_ 1 _ rfl; (with_reducible repeat (first | refine Bk2 ?_ _ | refine Bk3 ?_ | refine Bk1 ?_ _)); refine blk_put (cs := #[.int .i64 0, .int .i64 0]) ?_ 0 _ rfl; (with_reducible repeat (first | refine Bk2 ?_ _ | refine Bk3 ?_ | refine Bk1 ?_ _)); exact BK200.out) hb); have n2_ := am (Bb6 (by repeat (first | (with_reducible first | exact HB.out | apply Bb1 | apply Bb2 | apply Bb3 | refine Bb4 ?_ GE200.out) | exact HB.out)) hb); clear HO_3; clear BK200; clear HB; have HO_3 := n0_; have BK200 := n1_; have HB := n2_; clear n0_ n1_ n2_; (try clear hb); (try clear hb2); (try clear hk); (try clear hi)))
      go_roundg k2
      case measure => have := HK1.out; have := HK2.out; omega
      case rel => exact ⟨(x3_2), (wrap64 (x5_2 + 1)), zS, H', ⟨by have := HK1.out; have := HK2.out; omega⟩, ⟨by (with_reducible repeat (first | apply Kd.R_alloc | apply Kd.R_drewN | apply Kd.R_drew)); exact Kd.R_mono HO_3.out (fun _ hk => trivial)⟩, ⟨by repeat (first | (with_reducible first | exact HB.out | apply Bb1 | apply Bb2 | apply Bb3 | refine Bb4 ?_ GE200.out) | exact HB.out)⟩⟩
     rw [if_pos c9] at H
     have c9b0 : decide (t201 < 0) = true := decide_eq_true c9
     clear c9
     replace H := ob H
     obtain ⟨t202, A100, H⟩ := H
     (try dsimp only at H)
     have A10 := am A100
     clear A100
     by_cases c11 : t202 < 0
     rotate_left
     ·rw [if_neg c11] at H
      have c11b0 : decide (t202 < 0) = false := decide_eq_false c11
      clear c11
      have H' := am H
      clear H
      try go_wp2
      have n0_ := am (Kd.R_drew HO_3.out)
      have n1_ := am (Bb3 HB.out)
      clear HO_3
      clear HB
      have HO_3 := n0_
      have HB := n1_
      clear n0_ n1_
      have p198 : 0 ≤ (x4_1 : Int) := zD
      have q198 : x4_1 < (l0.length : Int) := zD
      obtain ⟨ad198, e198, hx198_0, hx198_1⟩ := at_T44 HR0.out x4_1 p198 q198
      have hw198_1 := hx198_1
      have hw198_0 := hx198_0
      cases e198
      replace hx198_0 := pc HB.out hx198_0
      replace hx198_1 := pc HB.out hx198_1
      replace p198 := eq_true p198
      replace q198 := eq_true q198
      have p199 : 0 ≤ (x4_1 : Int) := zD
      have q199 : x4_1 < (l0.length : Int) := zD
      obtain ⟨ad199, e199, hx199_0, hx199_1⟩ := at_T44 HR0.out x4_1 p199 q199
      have hw199_1 := hx199_1
      have hw199_0 := hx199_0
      obtain rfl : ad198 = ad199 := (by injection e199)
      replace hx199_0 := pc HB.out hx199_0
      replace hx199_1 := pc HB.out hx199_1
      replace p199 := eq_true p199
      replace q199 := eq_true q199
      refine start_ (n := 21) (S := fun w' => w'.cell? (ad198.add ((x4_1).toNat * 2)) = some (.int .i64 ((rd_T44 l0 x4_1).f0)) ∧ w'.cell? ⟨(ad198.add ((x4_1).toNat * 2)).block, (ad198.add ((x4_1).toNat * 2)).off + 1, none⟩ = some (.int .i64 ((rd_T44 l0 x4_1).f1)) ∧ w'.cell? (ad198.add ((x4_1).toNat * 2)) = some (.int .i64 ((rd_T44 l0 x4_1).f0)) ∧ w'.cell? ⟨(ad198.add ((x4_1).toNat * 2)).block, (ad198.add ((x4_1).toNat * 2)).off + 1, none⟩ = some (.int .i64 ((rd_T44 l0 x4_1).f1))) (ds := []) spec_l26Ring.m0 (by kernel_rfl) rfl rfl ⟨(pc HB.out hw198_0), (pc HB.out hw198_1), (pc HB.out hw199_0), (pc HB.out hw199_1)⟩ (fun hHeld => ?_); refine with_tabW spec_l26Ring.tab8 spec_l26Ring.bits8 (fun HT_ HW_ => ?_)
      generalize wr.drew = w24 at HO_3 HB hx198_0 hx198_1 hx199_0 hx199_1 hHeld ⊢
      refine pure_ (i := 0) (N := some 18) (v := ?_) (a' := ?_) spec_l26Ring.m1 rfl rfl zA (fun _ _ _ h => h) (Or.inl ⟨by rfl, ?_⟩) ?_ ?_
      rotate_left
      ·intro w'
       go_simp
       rfl
      rotate_left
      ·exact zP
      refine pure_ (i := 1) (N := some 19) (v := ?_) (a' := ?_) spec_l26Ring.m2 rfl rfl zA (fun _ _ _ h => h) (Or.inl ⟨by rfl, ?_⟩) ?_ ?_
      rotate_left
      ·intro w'
       go_simp
       rfl
      rotate_left
      ·exact zP
      refine pure_ (i := 2) (N := some 20) (v := ?_) (a' := ?_) spec_l26Ring.m3 rfl rfl zA (fun _ _ _ h => h) (Or.inl ⟨by rfl, ?_⟩) ?_ ?_
      rotate_left
      ·intro w'
       go_simp
       rfl
      rotate_left
      ·exact zP
      refine pure_ (i := 3) (N := some 21) (v := ?_) (a' := ?_) spec_l26Ring.m4 rfl rfl zA (fun _ _ _ h => h) (Or.inl ⟨by rfl, ?_⟩) ?_ ?_
      rotate_left
      ·intro w'
       go_simp
       rfl
      rotate_left
      ·exact zP
      refine pure_ (i := 5) (N := some 23) (v := ?_) (a' := ?_) spec_l26Ring.m5 rfl rfl zA (fun _ _ _ h => h) (Or.inl ⟨by rfl, ?_⟩) ?_ ?_
      rotate_left
      ·intro w'
       go_simp
       rfl
      rotate_left
      ·exact zP
      refine pure_ (i := 6) (N := some 24) (v := ?_) (a' := ?_) spec_l26Ring.m6 rfl rfl zA (fun _ _ _ h => h) (Or.inl ⟨by rfl, ?_⟩) ?_ ?_
      rotate_left
      ·intro w'
       go_simp
       rfl
      rotate_left
      ·exact zP
      refine pure_ (i := 9) (N := some 27) (v := ?_) (a' := ?_) spec_l26Ring.m7 rfl rfl zA (fun _ _ _ h => h) (Or.inl ⟨by rfl, ?_⟩) ?_ ?_
      rotate_left
      ·intro w'
       go_simp
       rfl
      rotate_left
      ·exact zP
      refine pure_ (i := 10) (N := some 28) (v := ?_) (a' := ?_) spec_l26Ring.m8 rfl rfl zA (fun _ _ _ h => h) (Or.inl ⟨by rfl, ?_⟩) ?_ ?_
      rotate_left
      ·intro w'
       go_simp
       rfl
      rotate_left
      ·exact zP
      refine pure_ (i := 11) (N := some 29) (v := ?_) (a' := ?_) spec_l26Ring.m9 rfl rfl zA (fun _ _ _ h => h) (Or.inl ⟨by rfl, ?_⟩) ?_ ?_
      rotate_left
      ·intro w'
       go_simp
       rfl
      rotate_left
      ·exact zP
      refine pure_ (i := 12) (N := some 30) (v := ?_) (a' := ?_) spec_l26Ring.m10 rfl rfl zA (fun _ _ _ h => h) (Or.inl ⟨by rfl, ?_⟩) ?_ ?_
      rotate_left
      ·intro w'
       go_simp
       rfl
      rotate_left
      ·exact zP
      refine pure_ (i := 14) (N := some 32) (v := ?_) (a' := ?_) spec_l26Ring.m11 rfl rfl zA (fun _ _ _ h => h) (Or.inl ⟨by rfl, ?_⟩) ?_ ?_
      rotate_left
      ·intro w'
       go_simp
       rfl
      rotate_left
      ·exact zP
      refine pure_ (i := 15) (N := some 33) (v := ?_) (a' := ?_) spec_l26Ring.m12 rfl rfl zA (fun _ _ _ h => h) (Or.inl ⟨by rfl, ?_⟩) ?_ ?_
      rotate_left
      ·intro w'
       go_simp
       rfl
      rotate_left
      ·exact zP
      refine take_ (i := 4) (N := some 22) (v := ?_) (a' := ?_) spec_l26Ring.m13 rfl rfl (take_ofW HT_.out HW_.out (by kernel_rfl)) (fun _ _ _ h => h) (Or.inl ⟨by rfl, ?_⟩) hHeld ?_ ?_
      rotate_left
      ·rintro w' ⟨s0, s1, s2, s3⟩
       go_simp
       rfl
      rotate_left
      ·exact zP
      refine pure_ (i := 7) (N := some 25) (v := ?_) (a' := ?_) spec_l26Ring.m14 rfl rfl zA (fun _ _ _ h => h) (Or.inl ⟨by rfl, ?_⟩) ?_ ?_
      rotate_left
      ·intro w'
       go_simp
       rfl
      rotate_left
      ·exact zP
      refine pure_ (i := 8) (N := some 26) (v := ?_) (a' := ?_) spec_l26Ring.m15 rfl rfl zA (fun _ _ _ h => h) (Or.inl ⟨by rfl, ?_⟩) ?_ ?_
      rotate_left
      ·intro w'
       go_simp
       rfl
      rotate_left
      ·exact zP
      refine take_ (i := 13) (N := some 31) (v := ?_) (a' := ?_) spec_l26Ring.m16 rfl rfl (take_ofW HT_.out HW_.out (by kernel_rfl)) (fun _ _ _ h => h) (Or.inl ⟨by rfl, ?_⟩) hHeld ?_ ?_
      rotate_left
      ·rintro w' ⟨s0, s1, s2, s3⟩
       go_simp
       rfl
      rotate_left
      ·exact zP
      refine pure_ (i := 16) (N := some 34) (v := ?_) (a' := ?_) spec_l26Ring.m17 rfl rfl zA (fun _ _ _ h => h) (Or.inl ⟨by rfl, ?_⟩) ?_ ?_
      rotate_left
      ·intro w'
       go_simp
       rfl
      rotate_left
      ·exact zP
      refine pure_ (i := 17) (N := some 35) (v := ?_) (a' := ?_) spec_l26Ring.m18 rfl rfl zA (fun _ _ _ h => h) (Or.inl ⟨by rfl, ?_⟩) ?_ ?_
      rotate_left
      ·intro w'
       go_simp
       rfl
      rotate_left
      ·exact zP
      refine pure_ (i := 18) (N := some 36) (v := ?_) (a' := ?_) spec_l26Ring.m19 rfl rfl zA (fun _ _ _ h => h) (Or.inl ⟨by rfl, ?_⟩) ?_ ?_
      rotate_left
      ·intro w'
       go_simp
       rfl
      rotate_left
      ·exact zP
      refine one_ (i := 19) (N := some 6) spec_l26Ring.m20 rfl rfl (one_of HT_.out (by kernel_rfl)) (by decide) (fun K hK => ?_)
      refine box_step ?hg (N := 6) ?hd (cs := #[.int .i64 0, .int .i64 0]) (t := 44) ?hr ?_; (case hd => rfl); (case hg => rfl); (case hr => first | (go_simp; done) | (go_simp; rfl))
      intro gb200 hg w25 hbox hb
      have n0_ := am (Kd.R_below (Kd.R_elderB (zR HO_3) gb200 (Nat.le_of_eq hg.symm)) hb)
      have n1_ := am (Bb6 zB hb)
      have n2_ := am (hbox)
      have n3_ := am ((by rw [hg]; exact (Bb5 zB) : w.heap.size ≤ gb200))
      have n4_ := am ((by rw [hg]; exact (Bb5 zB) : w.heap.size ≤ gb200))
      clear HO_3
      clear HB
      have HO_3 := n0_
      have HB := n1_
      have BK200 := n2_
      have GW200 := n3_
      have GE200 := n4_
      clear n0_ n1_ n2_ n3_ n4_
      clear hb hbox hg
      refine hK.out _ _ ⟨(pc HB.out hw198_0), (pc HB.out hw198_1), (pc HB.out hw199_0), (pc HB.out hw199_1)⟩ (fun hHeld => ?_)
      clear hK K
      refine norm_ (a' := ?_) ?_ ?_
      rotate_left
      ·show Act.put _ (some 6) _ = _
       simp only [Act.put, sa, i64_w, i32_w]
       rfl
      refine one_ (i := 20) (N := none) spec_l26Ring.m21 rfl rfl (one_of HT_.out (by kernel_rfl)) (by decide) (fun K hK => ?_)
      have hs26 : w25.cell? ⟨gb200, 0, none⟩ = some (.int .i64 0) := (kc BK200.out 0).trans rfl
      have hfs26 := kf BK200.out 0
      have hs27 : w25.cell? ⟨gb200, 1, none⟩ = some (.int .i64 0) := (kc BK200.out 1).trans rfl
      have hfs27 := kf BK200.out 1
      refine skip_ (w1 := ?_) (by rfl) rfl ?_ ?_
      rotate_left
      ·go_simp
       rfl
      refine hK.out _ _ ⟨((cell_far (p := ⟨gb200, _, none⟩) (by first | exact nl (Nat.lt_of_lt_of_le (by have := World.block_lt_of_cell? _ _ hw198_0; first | rwa [add_block] at this | exact this) GW200.out) | (rw [add_block]; exact nl (Nat.lt_of_lt_of_le (by have := World.block_lt_of_cell? _ _ hw198_0; first | rwa [add_block] at this | exact this) GW200.out)) | (show (Addr.add _ _).block ≠ _; rw [add_block]; exact nl (Nat.lt_of_lt_of_le (by have := World.block_lt_of_cell? _ _ hw198_0; first | rwa [add_block] at this | exact this) GW200.out)) | (dsimp only; exact nl (Nat.lt_of_lt_of_le (by have := World.block_lt_of_cell? _ _ hw198_0; first | rwa [add_block] at this | exact this) GW200.out))) _).trans (((cell_far (p := ⟨gb200, _, none⟩) (by first | exact nl (Nat.lt_of_lt_of_le (by have := World.block_lt_of_cell? _ _ hw198_0; first | rwa [add_block] at this | exact this) GW200.out) | (rw [add_block]; exact nl (Nat.lt_of_lt_of_le (by have := World.block_lt_of_cell? _ _ hw198_0; first | rwa [add_block] at this | exact this) GW200.out)) | (show (Addr.add _ _).block ≠ _; rw [add_block]; exact nl (Nat.lt_of_lt_of_le (by have := World.block_lt_of_cell? _ _ hw198_0; first | rwa [add_block] at this | exact this) GW200.out)) | (dsimp only; exact nl (Nat.lt_of_lt_of_le (by have := World.block_lt_of_cell? _ _ hw198_0; first | rwa [add_block] at this | exact this) GW200.out))) _).trans (hHeld.1)))), ((cell_far (p := ⟨gb200, _, none⟩) (by first | exact nl (Nat.lt_of_lt_of_le (by have := World.block_lt_of_cell? _ _ hw198_1; first | rwa [add_block] at this | exact this) GW200.out) | (rw [add_block]; exact nl (Nat.lt_of_lt_of_le (by have := World.block_lt_of_cell? _ _ hw198_1; first | rwa [add_block] at this | exact this) GW200.out)) | (show (Addr.add _ _).block ≠ _; rw [add_block]; exact nl (Nat.lt_of_lt_of_le (by have := World.block_lt_of_cell? _ _ hw198_1; first | rwa [add_block] at this | exact this) GW200.out)) | (dsimp only; exact nl (Nat.lt_of_lt_of_le (by have := World.block_lt_of_cell? _ _ hw198_1; first | rwa [add_block] at this | exact this) GW200.out))) _).trans (((cell_far (p := ⟨gb200, _, none⟩) (by first | exact nl (Nat.lt_of_lt_of_le (by have := World.block_lt_of_cell? _ _ hw198_1; first | rwa [add_block] at this | exact this) GW200.out) | (rw [add_block]; exact nl (Nat.lt_of_lt_of_le (by have := World.block_lt_of_cell? _ _ hw198_1; first | rwa [add_block] at this | exact this) GW200.out)) | (show (Addr.add _ _).block ≠ _; rw [add_block]; exact nl (Nat.lt_of_lt_of_le (by have := World.block_lt_of_cell? _ _ hw198_1; first | rwa [add_block] at this | exact this) GW200.out)) | (dsimp only; exact nl (Nat.lt_of_lt_of_le (by have := World.block_lt_of_cell? _ _ hw198_1; first | rwa [add_block] at this | exact this) GW200.out))) _).trans (hHeld.2.1)))), ((cell_far (p := ⟨gb200, _, none⟩) (by first | exact nl (Nat.lt_of_lt_of_le (by have := World.block_lt_of_cell? _ _ hw199_0; first | rwa [add_block] at this | exact this) GW200.out) | (rw [add_block]; exact nl (Nat.lt_of_lt_of_le (by have := World.block_lt_of_cell? _ _ hw199_0; first | rwa [add_block] at this | exact this) GW200.out)) | (show (Addr.add _ _).block ≠ _; rw [add_block]; exact nl (Nat.lt_of_lt_of_le (by have := World.block_lt_of_cell? _ _ hw199_0; first | rwa [add_block] at this | exact this) GW200.out)) | (dsimp only; exact nl (Nat.lt_of_lt_of_le (by have := World.block_lt_of_cell? _ _ hw199_0; first | rwa [add_block] at this | exact this) GW200.out))) _).trans (((cell_far (p := ⟨gb200, _, none⟩) (by first | exact nl (Nat.lt_of_lt_of_le (by have := World.block_lt_of_cell? _ _ hw199_0; first | rwa [add_block] at this | exact this) GW200.out) | (rw [add_block]; exact nl (Nat.lt_of_lt_of_le (by have := World.block_lt_of_cell? _ _ hw199_0; first | rwa [add_block] at this | exact this) GW200.out)) | (show (Addr.add _ _).block ≠ _; rw [add_block]; exact nl (Nat.lt_of_lt_of_le (by have := World.block_lt_of_cell? _ _ hw199_0; first | rwa [add_block] at this | exact this) GW200.out)) | (dsimp only; exact nl (Nat.lt_of_lt_of_le (by have := World.block_lt_of_cell? _ _ hw199_0; first | rwa [add_block] at this | exact this) GW200.out))) _).trans (hHeld.2.2.1)))), ((cell_far (p := ⟨gb200, _, none⟩) (by first | exact nl (Nat.lt_of_lt_of_le (by have := World.block_lt_of_cell? _ _ hw199_1; first | rwa [add_block] at this | exact this) GW200.out) | (rw [add_block]; exact nl (Nat.lt_of_lt_of_le (by have := World.block_lt_of_cell? _ _ hw199_1; first | rwa [add_block] at this | exact this) GW200.out)) | (show (Addr.add _ _).block ≠ _; rw [add_block]; exact nl (Nat.lt_of_lt_of_le (by have := World.block_lt_of_cell? _ _ hw199_1; first | rwa [add_block] at this | exact this) GW200.out)) | (dsimp only; exact nl (Nat.lt_of_lt_of_le (by have := World.block_lt_of_cell? _ _ hw199_1; first | rwa [add_block] at this | exact this) GW200.out))) _).trans (((cell_far (p := ⟨gb200, _, none⟩) (by first | exact nl (Nat.lt_of_lt_of_le (by have := World.block_lt_of_cell? _ _ hw199_1; first | rwa [add_block] at this | exact this) GW200.out) | (rw [add_block]; exact nl (Nat.lt_of_lt_of_le (by have := World.block_lt_of_cell? _ _ hw199_1; first | rwa [add_block] at this | exact this) GW200.out)) | (show (Addr.add _ _).block ≠ _; rw [add_block]; exact nl (Nat.lt_of_lt_of_le (by have := World.block_lt_of_cell? _ _ hw199_1; first | rwa [add_block] at this | exact this) GW200.out)) | (dsimp only; exact nl (Nat.lt_of_lt_of_le (by have := World.block_lt_of_cell? _ _ hw199_1; first | rwa [add_block] at this | exact this) GW200.out))) _).trans (hHeld.2.2.2))))⟩ (fun hHeld => ?_)
      clear hK K
      refine done_ (done_of HT_.out (by kernel_rfl)) ?_
      have hcz28_0 : w25.cell? ⟨gb200, 0, none⟩ = some (.int .i64 0) := (kc BK200.out 0).trans rfl
      have hcz28_1 : w25.cell? ⟨gb200, 1, none⟩ = some (.int .i64 0) := (kc BK200.out 1).trans rfl
      have hfz28_0 := kf BK200.out 0
      have hfz28_1 := kf BK200.out 1
      try go_wp2_with (first | ((with_reducible refine gate_callee (f := 25) rfl ?_); refine goesL_ (some 39) rfl rfl Tryz.func25 (by kernel_rfl) rfl #[.slice (some ad198) l0.length c0, .agg #[.int .i64 (wrap64 ((wrap64 (((rd_T44 l0 x4_1).f0) + (Int.tmod x5_2 3))) - 1)), .int .i64 (wrap64 ((wrap64 (((rd_T44 l0 x4_1).f1) + (wrap64 (Int.tdiv x5_2 3)))) - 1))]] rfl zL ?_; (with_reducible refine (spec_l02Index.calls k2 _ _ l0 (wrap64 ((wrap64 (((rd_T44 l0 x4_1).f0) + (Int.tmod x5_2 3))) - 1)) (wrap64 ((wrap64 (((rd_T44 l0 x4_1).f1) + (wrap64 (Int.tdiv x5_2 3)))) - 1)) t201 _ ?side1 ?side2 A8.out).mono ?_); (case side1 => exact Kd.C_below HR0.out (by repeat (first | (with_reducible first | exact HB.out | apply Bb1 | apply Bb2 | apply Bb3 | refine Bb4 ?_ GE200.out) | exact HB.out))); (case side2 => exact HC0.out); rintro e w29 ⟨rfl, hb⟩; refine ⟨_, rfl, ?_⟩; have n0_ := am (Kd.R_below (by (with_reducible repeat (first | apply Kd.R_alloc | apply Kd.R_drewN | apply Kd.R_drew)); exact (Kd.R_mono (Kd.R_far (p := ⟨gb200, 1, none⟩) (Kd.R_far (p := ⟨gb200, 0, none⟩) (Kd.R_mono HO_3.out (fun k_ hk => (⟨hk, hk.2⟩ : _ ∧ k_ ≠ gb200))) (fun _ hk => hk.2) (.int .i64 (wrap64 ((wrap64 (((rd_T44 l0 x4_1).f0) + (Int.tmod x5_2 3))) - 1)))) (fun _ hk => hk.2) (.int .i64 (wrap64 ((wrap64 (((rd_T44 l0 x4_1).f1) + (wrap64 (Int.tdiv x5_2 3)))) - 1)))) (fun _ h_ => h_.1))) hb); have n1_ := am (Bk4 (g := gb200) (o := .cells #[.int .i64 (wrap64 ((wrap64 (((rd_T44 l0 x4_1).f0) + (Int.tmod x5_2 3))) - 1)), .int .i64 (wrap64 ((wrap64 (((rd_T44 l0 x4_1).f1) + (wrap64 (Int.tdiv x5_2 3)))) - 1))] 44 (0, 0)) (by (with_reducible repeat (first | refine Bk2 ?_ _ | refine Bk3 ?_ | refine Bk1 ?_ _)); refine blk_put (cs := #[.int .i64 (wrap64 ((wrap64 (((rd_T44 l0 x4_1).f0) + (Int.tmod x5_2 3))) - 1)), .int .i64 0]) ?_ 1 _ rfl; (with_reducible repeat (first | refine Bk2 ?_ _ | refine Bk3 ?_ | refine Bk1 ?_ _)); refine blk_put (cs := #[.int .i64 0, .int .i64 0]) ?_ 0 _ rfl; (with_reducible repeat (first | refine Bk2 ?_ _ | refine Bk3 ?_ | refine Bk1 ?_ _)); exact BK200.out) hb); have n2_ := am (Bb6 (by repeat (first | (with_reducible first | exact HB.out | apply Bb1 | apply Bb2 | apply Bb3 | refine Bb4 ?_ GE200.out) | exact HB.out)) hb); clear HO_3; clear BK200; clear HB; have HO_3 := n0_; have BK200 := n1_; have HB := n2_; clear n0_ n1_ n2_; (try clear hb); (try clear hb2); (try clear hk); (try clear hi); have hcz30_0 : w29.cell? ⟨gb200, 0, none⟩ = some (.int .i64 (wrap64 ((wrap64 (((rd_T44 l0 x4_1).f0) + (Int.tmod x5_2 3))) - 1))) := (kc BK200.out 0).trans rfl; have hcz30_1 : w29.cell? ⟨gb200, 1, none⟩ = some (.int .i64 (wrap64 ((wrap64 (((rd_T44 l0 x4_1).f1) + (wrap64 (Int.tdiv x5_2 3)))) - 1))) := (kc BK200.out 1).trans rfl; have hfz30_0 := kf BK200.out 0; have hfz30_1 := kf BK200.out 1; obtain ⟨Ao31, co31, eo31⟩ := Kd.R_slice HO_3.out; subst eo31) | (go_at_call 25; (with_reducible refine (spec_l02Index.calls k2 _ _ x3_2 (wrap64 ((wrap64 (((rd_T44 l0 x4_1).f0) + (Int.tmod x5_2 3))) - 1)) (wrap64 ((wrap64 (((rd_T44 l0 x4_1).f1) + (wrap64 (Int.tdiv x5_2 3)))) - 1)) t202 _ ?side1 ?side2 A10.out).mono ?_); (case side1 => repeat (first | exact (Kd.R_reads' HO_3.out).2.2 | (with_reducible refine Kd.C_alloc ?_ _) | (with_reducible refine Kd.C_drewN ?_ _) | (with_reducible refine Kd.C_drew ?_))); (case side2 => exact (Kd.R_reads' HO_3.out).2.1); rintro e w32 ⟨rfl, hb⟩; have n0_ := am (Kd.R_below (zR HO_3) hb); have n1_ := am (Bk4 (g := gb200) (o := .cells #[.int .i64 (wrap64 ((wrap64 (((rd_T44 l0 x4_1).f0) + (Int.tmod x5_2 3))) - 1)), .int .i64 (wrap64 ((wrap64 (((rd_T44 l0 x4_1).f1) + (wrap64 (Int.tdiv x5_2 3)))) - 1))] 44 (0, 0)) (zK BK200) hb); have n2_ := am (Bb6 (by repeat (first | (with_reducible first | exact HB.out | apply Bb1 | apply Bb2 | apply Bb3 | refine Bb4 ?_ GE200.out) | exact HB.out)) hb); clear HO_3; clear BK200; clear HB; have HO_3 := n0_; have BK200 := n1_; have HB := n2_; clear n0_ n1_ n2_; (try clear hb); (try clear hb2); (try clear hk); (try clear hi)))
      go_roundg k2
      case measure => have := HK1.out; have := HK2.out; omega
      case rel => exact ⟨(x3_2), (wrap64 (x5_2 + 1)), zS, H', ⟨by have := HK1.out; have := HK2.out; omega⟩, ⟨by (with_reducible repeat (first | apply Kd.R_alloc | apply Kd.R_drewN | apply Kd.R_drew)); exact Kd.R_mono HO_3.out (fun _ hk => trivial)⟩, ⟨by repeat (first | (with_reducible first | exact HB.out | apply Bb1 | apply Bb2 | apply Bb3 | refine Bb4 ?_ GE200.out) | exact HB.out)⟩⟩
     rw [if_pos c11] at H
     have c11b0 : decide (t202 < 0) = true := decide_eq_true c11
     clear c11
     replace H := ob H
     obtain ⟨t203, A120, H⟩ := H
     (try dsimp only at H)
     have A12 := am A120
     clear A120
     have H' := am H
     clear H
     try go_wp2
     have n0_ := am (Kd.R_drew HO_3.out)
     have n1_ := am (Bb3 HB.out)
     clear HO_3
     clear HB
     have HO_3 := n0_
     have HB := n1_
     clear n0_ n1_
     have p198 : 0 ≤ (x4_1 : Int) := zD
     have q198 : x4_1 < (l0.length : Int) := zD
     obtain ⟨ad198, e198, hx198_0, hx198_1⟩ := at_T44 HR0.out x4_1 p198 q198
     have hw198_1 := hx198_1
     have hw198_0 := hx198_0
     cases e198
     replace hx198_0 := pc HB.out hx198_0
     replace hx198_1 := pc HB.out hx198_1
     replace p198 := eq_true p198
     replace q198 := eq_true q198
     have p199 : 0 ≤ (x4_1 : Int) := zD
     have q199 : x4_1 < (l0.length : Int) := zD
     obtain ⟨ad199, e199, hx199_0, hx199_1⟩ := at_T44 HR0.out x4_1 p199 q199
     have hw199_1 := hx199_1
     have hw199_0 := hx199_0
     obtain rfl : ad198 = ad199 := (by injection e199)
     replace hx199_0 := pc HB.out hx199_0
     replace hx199_1 := pc HB.out hx199_1
     replace p199 := eq_true p199
     replace q199 := eq_true q199
     refine start_ (n := 21) (S := fun w' => w'.cell? (ad198.add ((x4_1).toNat * 2)) = some (.int .i64 ((rd_T44 l0 x4_1).f0)) ∧ w'.cell? ⟨(ad198.add ((x4_1).toNat * 2)).block, (ad198.add ((x4_1).toNat * 2)).off + 1, none⟩ = some (.int .i64 ((rd_T44 l0 x4_1).f1)) ∧ w'.cell? (ad198.add ((x4_1).toNat * 2)) = some (.int .i64 ((rd_T44 l0 x4_1).f0)) ∧ w'.cell? ⟨(ad198.add ((x4_1).toNat * 2)).block, (ad198.add ((x4_1).toNat * 2)).off + 1, none⟩ = some (.int .i64 ((rd_T44 l0 x4_1).f1))) (ds := []) spec_l26Ring.m0 (by kernel_rfl) rfl rfl ⟨(pc HB.out hw198_0), (pc HB.out hw198_1), (pc HB.out hw199_0), (pc HB.out hw199_1)⟩ (fun hHeld => ?_); refine with_tabW spec_l26Ring.tab8 spec_l26Ring.bits8 (fun HT_ HW_ => ?_)
     generalize wr.drew = w13 at HO_3 HB hx198_0 hx198_1 hx199_0 hx199_1 hHeld ⊢
     refine pure_ (i := 0) (N := some 18) (v := ?_) (a' := ?_) spec_l26Ring.m1 rfl rfl zA (fun _ _ _ h => h) (Or.inl ⟨by rfl, ?_⟩) ?_ ?_
     rotate_left
     ·intro w'
      go_simp
      rfl
     rotate_left
     ·exact zP
     refine pure_ (i := 1) (N := some 19) (v := ?_) (a' := ?_) spec_l26Ring.m2 rfl rfl zA (fun _ _ _ h => h) (Or.inl ⟨by rfl, ?_⟩) ?_ ?_
     rotate_left
     ·intro w'
      go_simp
      rfl
     rotate_left
     ·exact zP
     refine pure_ (i := 2) (N := some 20) (v := ?_) (a' := ?_) spec_l26Ring.m3 rfl rfl zA (fun _ _ _ h => h) (Or.inl ⟨by rfl, ?_⟩) ?_ ?_
     rotate_left
     ·intro w'
      go_simp
      rfl
     rotate_left
     ·exact zP
     refine pure_ (i := 3) (N := some 21) (v := ?_) (a' := ?_) spec_l26Ring.m4 rfl rfl zA (fun _ _ _ h => h) (Or.inl ⟨by rfl, ?_⟩) ?_ ?_
     rotate_left
     ·intro w'
      go_simp
      rfl
     rotate_left
     ·exact zP
     refine pure_ (i := 5) (N := some 23) (v := ?_) (a' := ?_) spec_l26Ring.m5 rfl rfl zA (fun _ _ _ h => h) (Or.inl ⟨by rfl, ?_⟩) ?_ ?_
     rotate_left
     ·intro w'
      go_simp
      rfl
     rotate_left
     ·exact zP
     refine pure_ (i := 6) (N := some 24) (v := ?_) (a' := ?_) spec_l26Ring.m6 rfl rfl zA (fun _ _ _ h => h) (Or.inl ⟨by rfl, ?_⟩) ?_ ?_
     rotate_left
     ·intro w'
      go_simp
      rfl
     rotate_left
     ·exact zP
     refine pure_ (i := 9) (N := some 27) (v := ?_) (a' := ?_) spec_l26Ring.m7 rfl rfl zA (fun _ _ _ h => h) (Or.inl ⟨by rfl, ?_⟩) ?_ ?_
     rotate_left
     ·intro w'
      go_simp
      rfl
     rotate_left
     ·exact zP
     refine pure_ (i := 10) (N := some 28) (v := ?_) (a' := ?_) spec_l26Ring.m8 rfl rfl zA (fun _ _ _ h => h) (Or.inl ⟨by rfl, ?_⟩) ?_ ?_
     rotate_left
     ·intro w'
      go_simp
      rfl
     rotate_left
     ·exact zP
     refine pure_ (i := 11) (N := some 29) (v := ?_) (a' := ?_) spec_l26Ring.m9 rfl rfl zA (fun _ _ _ h => h) (Or.inl ⟨by rfl, ?_⟩) ?_ ?_
     rotate_left
     ·intro w'
      go_simp
      rfl
     rotate_left
     ·exact zP
     refine pure_ (i := 12) (N := some 30) (v := ?_) (a' := ?_) spec_l26Ring.m10 rfl rfl zA (fun _ _ _ h => h) (Or.inl ⟨by rfl, ?_⟩) ?_ ?_
     rotate_left
     ·intro w'
      go_simp
      rfl
     rotate_left
     ·exact zP
     refine pure_ (i := 14) (N := some 32) (v := ?_) (a' := ?_) spec_l26Ring.m11 rfl rfl zA (fun _ _ _ h => h) (Or.inl ⟨by rfl, ?_⟩) ?_ ?_
     rotate_left
     ·intro w'
      go_simp
      rfl
     rotate_left
     ·exact zP
     refine pure_ (i := 15) (N := some 33) (v := ?_) (a' := ?_) spec_l26Ring.m12 rfl rfl zA (fun _ _ _ h => h) (Or.inl ⟨by rfl, ?_⟩) ?_ ?_
     rotate_left
     ·intro w'
      go_simp
      rfl
     rotate_left
     ·exact zP
     refine take_ (i := 4) (N := some 22) (v := ?_) (a' := ?_) spec_l26Ring.m13 rfl rfl (take_ofW HT_.out HW_.out (by kernel_rfl)) (fun _ _ _ h => h) (Or.inl ⟨by rfl, ?_⟩) hHeld ?_ ?_
     rotate_left
     ·rintro w' ⟨s0, s1, s2, s3⟩
      go_simp
      rfl
     rotate_left
     ·exact zP
     refine pure_ (i := 7) (N := some 25) (v := ?_) (a' := ?_) spec_l26Ring.m14 rfl rfl zA (fun _ _ _ h => h) (Or.inl ⟨by rfl, ?_⟩) ?_ ?_
     rotate_left
     ·intro w'
      go_simp
      rfl
     rotate_left
     ·exact zP
     refine pure_ (i := 8) (N := some 26) (v := ?_) (a' := ?_) spec_l26Ring.m15 rfl rfl zA (fun _ _ _ h => h) (Or.inl ⟨by rfl, ?_⟩) ?_ ?_
     rotate_left
     ·intro w'
      go_simp
      rfl
     rotate_left
     ·exact zP
     refine take_ (i := 13) (N := some 31) (v := ?_) (a' := ?_) spec_l26Ring.m16 rfl rfl (take_ofW HT_.out HW_.out (by kernel_rfl)) (fun _ _ _ h => h) (Or.inl ⟨by rfl, ?_⟩) hHeld ?_ ?_
     rotate_left
     ·rintro w' ⟨s0, s1, s2, s3⟩
      go_simp
      rfl
     rotate_left
     ·exact zP
     refine pure_ (i := 16) (N := some 34) (v := ?_) (a' := ?_) spec_l26Ring.m17 rfl rfl zA (fun _ _ _ h => h) (Or.inl ⟨by rfl, ?_⟩) ?_ ?_
     rotate_left
     ·intro w'
      go_simp
      rfl
     rotate_left
     ·exact zP
     refine pure_ (i := 17) (N := some 35) (v := ?_) (a' := ?_) spec_l26Ring.m18 rfl rfl zA (fun _ _ _ h => h) (Or.inl ⟨by rfl, ?_⟩) ?_ ?_
     rotate_left
     ·intro w'
      go_simp
      rfl
     rotate_left
     ·exact zP
     refine pure_ (i := 18) (N := some 36) (v := ?_) (a' := ?_) spec_l26Ring.m19 rfl rfl zA (fun _ _ _ h => h) (Or.inl ⟨by rfl, ?_⟩) ?_ ?_
     rotate_left
     ·intro w'
      go_simp
      rfl
     rotate_left
     ·exact zP
     refine one_ (i := 19) (N := some 6) spec_l26Ring.m20 rfl rfl (one_of HT_.out (by kernel_rfl)) (by decide) (fun K hK => ?_)
     refine box_step ?hg (N := 6) ?hd (cs := #[.int .i64 0, .int .i64 0]) (t := 44) ?hr ?_; (case hd => rfl); (case hg => rfl); (case hr => first | (go_simp; done) | (go_simp; rfl))
     intro gb200 hg w14 hbox hb
     have n0_ := am (Kd.R_below (Kd.R_elderB (zR HO_3) gb200 (Nat.le_of_eq hg.symm)) hb)
     have n1_ := am (Bb6 zB hb)
     have n2_ := am (hbox)
     have n3_ := am ((by rw [hg]; exact (Bb5 zB) : w.heap.size ≤ gb200))
     have n4_ := am ((by rw [hg]; exact (Bb5 zB) : w.heap.size ≤ gb200))
     clear HO_3
     clear HB
     have HO_3 := n0_
     have HB := n1_
     have BK200 := n2_
     have GW200 := n3_
     have GE200 := n4_
     clear n0_ n1_ n2_ n3_ n4_
     clear hb hbox hg
     refine hK.out _ _ ⟨(pc HB.out hw198_0), (pc HB.out hw198_1), (pc HB.out hw199_0), (pc HB.out hw199_1)⟩ (fun hHeld => ?_)
     clear hK K
     refine norm_ (a' := ?_) ?_ ?_
     rotate_left
     ·show Act.put _ (some 6) _ = _
      simp only [Act.put, sa, i64_w, i32_w]
      rfl
     refine one_ (i := 20) (N := none) spec_l26Ring.m21 rfl rfl (one_of HT_.out (by kernel_rfl)) (by decide) (fun K hK => ?_)
     have hs15 : w14.cell? ⟨gb200, 0, none⟩ = some (.int .i64 0) := (kc BK200.out 0).trans rfl
     have hfs15 := kf BK200.out 0
     have hs16 : w14.cell? ⟨gb200, 1, none⟩ = some (.int .i64 0) := (kc BK200.out 1).trans rfl
     have hfs16 := kf BK200.out 1
     refine skip_ (w1 := ?_) (by rfl) rfl ?_ ?_
     rotate_left
     ·go_simp
      rfl
     refine hK.out _ _ ⟨((cell_far (p := ⟨gb200, _, none⟩) (by first | exact nl (Nat.lt_of_lt_of_le (by have := World.block_lt_of_cell? _ _ hw198_0; first | rwa [add_block] at this | exact this) GW200.out) | (rw [add_block]; exact nl (Nat.lt_of_lt_of_le (by have := World.block_lt_of_cell? _ _ hw198_0; first | rwa [add_block] at this | exact this) GW200.out)) | (show (Addr.add _ _).block ≠ _; rw [add_block]; exact nl (Nat.lt_of_lt_of_le (by have := World.block_lt_of_cell? _ _ hw198_0; first | rwa [add_block] at this | exact this) GW200.out)) | (dsimp only; exact nl (Nat.lt_of_lt_of_le (by have := World.block_lt_of_cell? _ _ hw198_0; first | rwa [add_block] at this | exact this) GW200.out))) _).trans (((cell_far (p := ⟨gb200, _, none⟩) (by first | exact nl (Nat.lt_of_lt_of_le (by have := World.block_lt_of_cell? _ _ hw198_0; first | rwa [add_block] at this | exact this) GW200.out) | (rw [add_block]; exact nl (Nat.lt_of_lt_of_le (by have := World.block_lt_of_cell? _ _ hw198_0; first | rwa [add_block] at this | exact this) GW200.out)) | (show (Addr.add _ _).block ≠ _; rw [add_block]; exact nl (Nat.lt_of_lt_of_le (by have := World.block_lt_of_cell? _ _ hw198_0; first | rwa [add_block] at this | exact this) GW200.out)) | (dsimp only; exact nl (Nat.lt_of_lt_of_le (by have := World.block_lt_of_cell? _ _ hw198_0; first | rwa [add_block] at this | exact this) GW200.out))) _).trans (hHeld.1)))), ((cell_far (p := ⟨gb200, _, none⟩) (by first | exact nl (Nat.lt_of_lt_of_le (by have := World.block_lt_of_cell? _ _ hw198_1; first | rwa [add_block] at this | exact this) GW200.out) | (rw [add_block]; exact nl (Nat.lt_of_lt_of_le (by have := World.block_lt_of_cell? _ _ hw198_1; first | rwa [add_block] at this | exact this) GW200.out)) | (show (Addr.add _ _).block ≠ _; rw [add_block]; exact nl (Nat.lt_of_lt_of_le (by have := World.block_lt_of_cell? _ _ hw198_1; first | rwa [add_block] at this | exact this) GW200.out)) | (dsimp only; exact nl (Nat.lt_of_lt_of_le (by have := World.block_lt_of_cell? _ _ hw198_1; first | rwa [add_block] at this | exact this) GW200.out))) _).trans (((cell_far (p := ⟨gb200, _, none⟩) (by first | exact nl (Nat.lt_of_lt_of_le (by have := World.block_lt_of_cell? _ _ hw198_1; first | rwa [add_block] at this | exact this) GW200.out) | (rw [add_block]; exact nl (Nat.lt_of_lt_of_le (by have := World.block_lt_of_cell? _ _ hw198_1; first | rwa [add_block] at this | exact this) GW200.out)) | (show (Addr.add _ _).block ≠ _; rw [add_block]; exact nl (Nat.lt_of_lt_of_le (by have := World.block_lt_of_cell? _ _ hw198_1; first | rwa [add_block] at this | exact this) GW200.out)) | (dsimp only; exact nl (Nat.lt_of_lt_of_le (by have := World.block_lt_of_cell? _ _ hw198_1; first | rwa [add_block] at this | exact this) GW200.out))) _).trans (hHeld.2.1)))), ((cell_far (p := ⟨gb200, _, none⟩) (by first | exact nl (Nat.lt_of_lt_of_le (by have := World.block_lt_of_cell? _ _ hw199_0; first | rwa [add_block] at this | exact this) GW200.out) | (rw [add_block]; exact nl (Nat.lt_of_lt_of_le (by have := World.block_lt_of_cell? _ _ hw199_0; first | rwa [add_block] at this | exact this) GW200.out)) | (show (Addr.add _ _).block ≠ _; rw [add_block]; exact nl (Nat.lt_of_lt_of_le (by have := World.block_lt_of_cell? _ _ hw199_0; first | rwa [add_block] at this | exact this) GW200.out)) | (dsimp only; exact nl (Nat.lt_of_lt_of_le (by have := World.block_lt_of_cell? _ _ hw199_0; first | rwa [add_block] at this | exact this) GW200.out))) _).trans (((cell_far (p := ⟨gb200, _, none⟩) (by first | exact nl (Nat.lt_of_lt_of_le (by have := World.block_lt_of_cell? _ _ hw199_0; first | rwa [add_block] at this | exact this) GW200.out) | (rw [add_block]; exact nl (Nat.lt_of_lt_of_le (by have := World.block_lt_of_cell? _ _ hw199_0; first | rwa [add_block] at this | exact this) GW200.out)) | (show (Addr.add _ _).block ≠ _; rw [add_block]; exact nl (Nat.lt_of_lt_of_le (by have := World.block_lt_of_cell? _ _ hw199_0; first | rwa [add_block] at this | exact this) GW200.out)) | (dsimp only; exact nl (Nat.lt_of_lt_of_le (by have := World.block_lt_of_cell? _ _ hw199_0; first | rwa [add_block] at this | exact this) GW200.out))) _).trans (hHeld.2.2.1)))), ((cell_far (p := ⟨gb200, _, none⟩) (by first | exact nl (Nat.lt_of_lt_of_le (by have := World.block_lt_of_cell? _ _ hw199_1; first | rwa [add_block] at this | exact this) GW200.out) | (rw [add_block]; exact nl (Nat.lt_of_lt_of_le (by have := World.block_lt_of_cell? _ _ hw199_1; first | rwa [add_block] at this | exact this) GW200.out)) | (show (Addr.add _ _).block ≠ _; rw [add_block]; exact nl (Nat.lt_of_lt_of_le (by have := World.block_lt_of_cell? _ _ hw199_1; first | rwa [add_block] at this | exact this) GW200.out)) | (dsimp only; exact nl (Nat.lt_of_lt_of_le (by have := World.block_lt_of_cell? _ _ hw199_1; first | rwa [add_block] at this | exact this) GW200.out))) _).trans (((cell_far (p := ⟨gb200, _, none⟩) (by first | exact nl (Nat.lt_of_lt_of_le (by have := World.block_lt_of_cell? _ _ hw199_1; first | rwa [add_block] at this | exact this) GW200.out) | (rw [add_block]; exact nl (Nat.lt_of_lt_of_le (by have := World.block_lt_of_cell? _ _ hw199_1; first | rwa [add_block] at this | exact this) GW200.out)) | (show (Addr.add _ _).block ≠ _; rw [add_block]; exact nl (Nat.lt_of_lt_of_le (by have := World.block_lt_of_cell? _ _ hw199_1; first | rwa [add_block] at this | exact this) GW200.out)) | (dsimp only; exact nl (Nat.lt_of_lt_of_le (by have := World.block_lt_of_cell? _ _ hw199_1; first | rwa [add_block] at this | exact this) GW200.out))) _).trans (hHeld.2.2.2))))⟩ (fun hHeld => ?_)
     clear hK K
     refine done_ (done_of HT_.out (by kernel_rfl)) ?_
     have hcz17_0 : w14.cell? ⟨gb200, 0, none⟩ = some (.int .i64 0) := (kc BK200.out 0).trans rfl
     have hcz17_1 : w14.cell? ⟨gb200, 1, none⟩ = some (.int .i64 0) := (kc BK200.out 1).trans rfl
     have hfz17_0 := kf BK200.out 0
     have hfz17_1 := kf BK200.out 1
     try go_wp2_with (first | ((with_reducible refine gate_callee (f := 25) rfl ?_); refine goesL_ (some 39) rfl rfl Tryz.func25 (by kernel_rfl) rfl #[.slice (some ad198) l0.length c0, .agg #[.int .i64 (wrap64 ((wrap64 (((rd_T44 l0 x4_1).f0) + (Int.tmod x5_2 3))) - 1)), .int .i64 (wrap64 ((wrap64 (((rd_T44 l0 x4_1).f1) + (wrap64 (Int.tdiv x5_2 3)))) - 1))]] rfl zL ?_; (with_reducible refine (spec_l02Index.calls k2 _ _ l0 (wrap64 ((wrap64 (((rd_T44 l0 x4_1).f0) + (Int.tmod x5_2 3))) - 1)) (wrap64 ((wrap64 (((rd_T44 l0 x4_1).f1) + (wrap64 (Int.tdiv x5_2 3)))) - 1)) t201 _ ?side1 ?side2 A8.out).mono ?_); (case side1 => exact Kd.C_below HR0.out (by repeat (first | (with_reducible first | exact HB.out | apply Bb1 | apply Bb2 | apply Bb3 | refine Bb4 ?_ GE200.out) | exact HB.out))); (case side2 => exact HC0.out); rintro e w18 ⟨rfl, hb⟩; refine ⟨_, rfl, ?_⟩; have n0_ := am (Kd.R_below (by (with_reducible repeat (first | apply Kd.R_alloc | apply Kd.R_drewN | apply Kd.R_drew)); exact (Kd.R_mono (Kd.R_far (p := ⟨gb200, 1, none⟩) (Kd.R_far (p := ⟨gb200, 0, none⟩) (Kd.R_mono HO_3.out (fun k_ hk => (⟨hk, hk.2⟩ : _ ∧ k_ ≠ gb200))) (fun _ hk => hk.2) (.int .i64 (wrap64 ((wrap64 (((rd_T44 l0 x4_1).f0) + (Int.tmod x5_2 3))) - 1)))) (fun _ hk => hk.2) (.int .i64 (wrap64 ((wrap64 (((rd_T44 l0 x4_1).f1) + (wrap64 (Int.tdiv x5_2 3)))) - 1)))) (fun _ h_ => h_.1))) hb); have n1_ := am (Bk4 (g := gb200) (o := .cells #[.int .i64 (wrap64 ((wrap64 (((rd_T44 l0 x4_1).f0) + (Int.tmod x5_2 3))) - 1)), .int .i64 (wrap64 ((wrap64 (((rd_T44 l0 x4_1).f1) + (wrap64 (Int.tdiv x5_2 3)))) - 1))] 44 (0, 0)) (by (with_reducible repeat (first | refine Bk2 ?_ _ | refine Bk3 ?_ | refine Bk1 ?_ _)); refine blk_put (cs := #[.int .i64 (wrap64 ((wrap64 (((rd_T44 l0 x4_1).f0) + (Int.tmod x5_2 3))) - 1)), .int .i64 0]) ?_ 1 _ rfl; (with_reducible repeat (first | refine Bk2 ?_ _ | refine Bk3 ?_ | refine Bk1 ?_ _)); refine blk_put (cs := #[.int .i64 0, .int .i64 0]) ?_ 0 _ rfl; (with_reducible repeat (first | refine Bk2 ?_ _ | refine Bk3 ?_ | refine Bk1 ?_ _)); exact BK200.out) hb); have n2_ := am (Bb6 (by repeat (first | (with_reducible first | exact HB.out | apply Bb1 | apply Bb2 | apply Bb3 | refine Bb4 ?_ GE200.out) | exact HB.out)) hb); clear HO_3; clear BK200; clear HB; have HO_3 := n0_; have BK200 := n1_; have HB := n2_; clear n0_ n1_ n2_; (try clear hb); (try clear hb2); (try clear hk); (try clear hi); have hcz19_0 : w18.cell? ⟨gb200, 0, none⟩ = some (.int .i64 (wrap64 ((wrap64 (((rd_T44 l0 x4_1).f0) + (Int.tmod x5_2 3))) - 1))) := (kc BK200.out 0).trans rfl; have hcz19_1 : w18.cell? ⟨gb200, 1, none⟩ = some (.int .i64 (wrap64 ((wrap64 (((rd_T44 l0 x4_1).f1) + (wrap64 (Int.tdiv x5_2 3)))) - 1))) := (kc BK200.out 1).trans rfl; have hfz19_0 := kf BK200.out 0; have hfz19_1 := kf BK200.out 1; obtain ⟨Ao20, co20, eo20⟩ := Kd.R_slice HO_3.out; subst eo20) | (go_at_call 25; (with_reducible refine (spec_l02Index.calls k2 _ _ x3_2 (wrap64 ((wrap64 (((rd_T44 l0 x4_1).f0) + (Int.tmod x5_2 3))) - 1)) (wrap64 ((wrap64 (((rd_T44 l0 x4_1).f1) + (wrap64 (Int.tdiv x5_2 3)))) - 1)) t202 _ ?side1 ?side2 A10.out).mono ?_); (case side1 => repeat (first | exact (Kd.R_reads' HO_3.out).2.2 | (with_reducible refine Kd.C_alloc ?_ _) | (with_reducible refine Kd.C_drewN ?_ _) | (with_reducible refine Kd.C_drew ?_))); (case side2 => exact (Kd.R_reads' HO_3.out).2.1); rintro e w21 ⟨rfl, hb⟩; have n0_ := am (Kd.R_below (zR HO_3) hb); have n1_ := am (Bk4 (g := gb200) (o := .cells #[.int .i64 (wrap64 ((wrap64 (((rd_T44 l0 x4_1).f0) + (Int.tmod x5_2 3))) - 1)), .int .i64 (wrap64 ((wrap64 (((rd_T44 l0 x4_1).f1) + (wrap64 (Int.tdiv x5_2 3)))) - 1))] 44 (0, 0)) (zK BK200) hb); have n2_ := am (Bb6 (by repeat (first | (with_reducible first | exact HB.out | apply Bb1 | apply Bb2 | apply Bb3 | refine Bb4 ?_ GE200.out) | exact HB.out)) hb); clear HO_3; clear BK200; clear HB; have HO_3 := n0_; have BK200 := n1_; have HB := n2_; clear n0_ n1_ n2_; (try clear hb); (try clear hb2); (try clear hk); (try clear hi); have hcz22_0 : w21.cell? ⟨gb200, 0, none⟩ = some (.int .i64 (wrap64 ((wrap64 (((rd_T44 l0 x4_1).f0) + (Int.tmod x5_2 3))) - 1))) := (kc BK200.out 0).trans rfl; have hcz22_1 : w21.cell? ⟨gb200, 1, none⟩ = some (.int .i64 (wrap64 ((wrap64 (((rd_T44 l0 x4_1).f1) + (wrap64 (Int.tdiv x5_2 3)))) - 1))) := (kc BK200.out 1).trans rfl; have hfz22_0 := kf BK200.out 0; have hfz22_1 := kf BK200.out 1) | ((with_reducible refine gate_callee (f := 26) rfl ?_); refine goesL_ (some 49) rfl rfl Tryz.func26 (by kernel_rfl) rfl #[.slice Ao20 x3_2.length co20, .agg #[.int .i64 (wrap64 ((wrap64 (((rd_T44 l0 x4_1).f0) + (Int.tmod x5_2 3))) - 1)), .int .i64 (wrap64 ((wrap64 (((rd_T44 l0 x4_1).f1) + (wrap64 (Int.tdiv x5_2 3)))) - 1))]] rfl zL ?_; (with_reducible refine (spec_l02Insert.calls k2 _ _ x3_2 (wrap64 ((wrap64 (((rd_T44 l0 x4_1).f0) + (Int.tmod x5_2 3))) - 1)) (wrap64 ((wrap64 (((rd_T44 l0 x4_1).f1) + (wrap64 (Int.tdiv x5_2 3)))) - 1)) t203 _ ?side1 ?side2 A12.out).mono ?_); (case side1 => repeat (first | exact (Kd.R_reads' HO_3.out).2.2 | (with_reducible refine Kd.C_alloc ?_ _) | (with_reducible refine Kd.C_drewN ?_ _) | (with_reducible refine Kd.C_drew ?_))); (case side2 => exact (Kd.R_reads' HO_3.out).2.1); rintro e w23 ⟨v204, rfl, ho0, hb⟩; refine ⟨_, rfl, ?_⟩; have n0_ := am (Kd.R_elder' (zR HO_3) (Kd.R_base ho0) hb); have n1_ := am (Kd.R_lower (Kd.R_newB (Kd.R_new' ho0 (Kd.R_lt (zR HO_3))) (g := gb200) (o := .cells #[.int .i64 (wrap64 ((wrap64 (((rd_T44 l0 x4_1).f0) + (Int.tmod x5_2 3))) - 1)), .int .i64 (wrap64 ((wrap64 (((rd_T44 l0 x4_1).f1) + (wrap64 (Int.tdiv x5_2 3)))) - 1))] 44 (0, 0)) (zK BK200)) (Bb5 (by repeat (first | (with_reducible first | exact HB.out | apply Bb1 | apply Bb2 | apply Bb3 | refine Bb4 ?_ GE200.out) | exact HB.out)))); have n2_ := am (Bk4 (g := gb200) (o := .cells #[.int .i64 (wrap64 ((wrap64 (((rd_T44 l0 x4_1).f0) + (Int.tmod x5_2 3))) - 1)), .int .i64 (wrap64 ((wrap64 (((rd_T44 l0 x4_1).f1) + (wrap64 (Int.tdiv x5_2 3)))) - 1))] 44 (0, 0)) (zK BK200) hb); have n3_ := am (Bb6 (by repeat (first | (with_reducible first | exact HB.out | apply Bb1 | apply Bb2 | apply Bb3 | refine Bb4 ?_ GE200.out) | exact HB.out)) hb); clear HO_3; clear BK200; clear HB; have HO_3 := n0_; have HO205 := n1_; have BK200 := n2_; have HB := n3_; clear n0_ n1_ n2_ n3_; (try clear hb); (try clear hb2); (try clear hk); (try clear hi); (try clear ho0)))
     go_roundg k2
     case measure => have := HK1.out; have := HK2.out; omega
     case rel => exact ⟨(t203), (wrap64 (x5_2 + 1)), zS, H', ⟨by have := HK1.out; have := HK2.out; omega⟩, ⟨by (with_reducible repeat (first | apply Kd.R_alloc | apply Kd.R_drewN | apply Kd.R_drew)); exact Kd.R_mono HO205.out (fun _ hk => trivial)⟩, ⟨by repeat (first | (with_reducible first | exact HB.out | apply Bb1 | apply Bb2 | apply Bb3 | refine Bb4 ?_ GE200.out) | exact HB.out)⟩⟩

end Go.Proofs.YtbbhohaenijaoaaGreat.Q
