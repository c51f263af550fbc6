/- Written by a program of this session (wip/tools/pp.py) out of the translation, with the kit's printer. -/
import Derived.Test.YtjgnlakgojookaaQ0
import Derived.Test.YtjgnlakgojookaaQ6
import Derived.Test.YtjgnlakgojookaaQ20
import Derived.Test.YtjgnlakgojookaaQ24
namespace Go.Proofs.Ytjgnlakgojookaa.Q
open Go.RowKit Go.Proofs.YtjgnlakgojookaaW.PrintWords Go.Proofs.YtjgnlakgojookaaW.PrintLast Go.Proofs.YtjgnlakgojookaaW.PrintMore
attribute [local go_sem] max2_int min2_int max_two min_two max_three min_three max_four min_four
set_option linter.unusedVariables false
set_option linter.unusedSimpArgs false

/-! ### spec_l27Leaves: function 73 -/
abbrev spec_l27Leaves.m0 : Array Bool := #[z',z',z',z',z',z',z',z',z',z',z',z',z',z',z',z',z']
abbrev spec_l27Leaves.m1 : Array Bool := #[o',z',z',z',z',z',z',z',z',z',z',z',z',z',z',z',z']
abbrev spec_l27Leaves.m2 : Array Bool := #[o',o',z',z',z',z',z',z',z',z',z',z',z',z',z',z',z']
abbrev spec_l27Leaves.m3 : Array Bool := #[o',o',o',z',z',z',z',z',z',z',z',z',z',z',z',z',z']
abbrev spec_l27Leaves.m4 : Array Bool := #[o',o',o',o',z',z',z',z',z',z',z',z',z',z',z',z',z']
abbrev spec_l27Leaves.m5 : Array Bool := #[o',o',o',o',o',z',z',z',z',z',z',z',z',z',z',z',z']
abbrev spec_l27Leaves.m6 : Array Bool := #[o',o',o',o',o',o',z',z',z',z',z',z',z',z',z',z',z']
abbrev spec_l27Leaves.m7 : Array Bool := #[o',o',o',o',o',o',z',o',z',z',z',z',z',z',z',z',z']
abbrev spec_l27Leaves.m8 : Array Bool := #[o',o',o',o',o',o',z',o',z',z',o',z',z',z',z',z',z']
abbrev spec_l27Leaves.m9 : Array Bool := #[o',o',o',o',o',o',z',o',z',z',o',o',z',z',z',z',z']
abbrev spec_l27Leaves.m10 : Array Bool := #[o',o',o',o',o',o',z',o',z',z',o',o',o',z',z',z',z']
abbrev spec_l27Leaves.m11 : Array Bool := #[o',o',o',o',o',o',o',o',z',z',o',o',o',z',z',z',z']
abbrev spec_l27Leaves.m12 : Array Bool := #[o',o',o',o',o',o',o',o',o',z',o',o',o',z',z',z',z']
abbrev spec_l27Leaves.m13 : Array Bool := #[o',o',o',o',o',o',o',o',o',o',o',o',o',z',z',z',z']
abbrev spec_l27Leaves.m14 : Array Bool := #[o',o',o',o',o',o',o',o',o',o',o',o',o',o',z',z',z']
abbrev spec_l27Leaves.m15 : Array Bool := #[o',o',o',o',o',o',o',o',o',o',o',o',o',o',o',z',z']
abbrev spec_l27Leaves.m16 : Array Bool := #[o',o',o',o',o',o',o',o',o',o',o',o',o',o',o',o',z']
abbrev spec_l27Leaves.m17 : Array Bool := #[o',o',o',o',o',o',o',o',o',o',o',o',o',o',o',o',o']
mutual
def spec_l27Leaves.l0 : Nat → List (S71) → Int → Int → List (S71) → Int → List (List (S71)) → Option (Bool)
 | 0, _, _, _, _, _, _ => none
 | k + 1, x1, x2, x3, x9, x10, x310000 => if x10 < 40 then ((spec_l27Vector.f x3).bind fun bt315 => ((spec_l09Move.f k x9 bt315.1 bt315.2.1 bt315.2.2).bind fun t318 => (spec_l27Leaves.l1 k x1 x2 x3 t318 x10 0 x310000))) else (some true)
def spec_l27Leaves.l1 : Nat → List (S71) → Int → Int → List (S71) → Int → Int → List (List (S71)) → Option (Bool)
 | 0, _, _, _, _, _, _, _ => none
 | k + 1, x1, x2, x3, x9, x10, x11, x310000 => if x11 < (x1.length : Int) then (if x11 = x2 then (spec_l27Leaves.l1 k x1 x2 x3 x9 x10 (wrap64 (x11 + 1)) x310000) else (if 0 ≤ x11 then (if x11 < (x310000.length : Int) then ((spec_l09Move.f k (rd_L4 x310000 x11) ((rd_T71 x1 x11).f0) ((rd_T71 x1 x11).f1) ((rd_T71 x1 x11).f2)).bind fun t323 => ((spec_l27Meet.f k x9 t323).bind fun t326 => (if t326 = true then (some false) else (spec_l27Leaves.l1 k x1 x2 x3 x9 x10 (wrap64 (x11 + 1)) x310000)))) else (none)) else (none))) else (spec_l27Leaves.l0 k x1 x2 x3 x9 (wrap64 (x10 + 1)) x310000)
end
def spec_l27Leaves.f (k : Nat) (l0_0 : List (List (S71))) (l1 : List (S71)) (a2 : Int) (a3 : Int) : Option (Bool) := if 0 ≤ a2 then (if a2 < (l0_0.length : Int) then (if a2 < (l1.length : Int) then ((spec_l09Move.f k (rd_L4 l0_0 a2) ((rd_T71 l1 a2).f0) ((rd_T71 l1 a2).f1) ((rd_T71 l1 a2).f2)).bind fun t312 => (spec_l27Leaves.l0 k l1 a2 a3 t312 0 l0_0)) else (none)) else (none)) else (none)
theorem spec_l27Leaves.mono_l : ∀ k, (∀ y0 y1 y2 y3 y4 y5, LeO (spec_l27Leaves.l0 k y0 y1 y2 y3 y4 y5) (spec_l27Leaves.l0 (k + 1) y0 y1 y2 y3 y4 y5)) ∧ (∀ y0 y1 y2 y3 y4 y5 y6, LeO (spec_l27Leaves.l1 k y0 y1 y2 y3 y4 y5 y6) (spec_l27Leaves.l1 (k + 1) y0 y1 y2 y3 y4 y5 y6))
 | 0 => ⟨fun _ _ _ _ _ _ r h => by simp [spec_l27Leaves.l0] at h, fun _ _ _ _ _ _ _ r h => by simp [spec_l27Leaves.l1] at h⟩
 | k + 1 => by
  obtain ⟨ih0, ih1⟩ := spec_l27Leaves.mono_l k
  refine ⟨?_, ?_⟩
  ·intro y0 y1 y2 y3 y4 y5
   unfold spec_l27Leaves.l0
   repeat' first
   | (with_reducible exact ih0 _ _ _ _ _ _)
   | (with_reducible exact ih1 _ _ _ _ _ _ _)
   | (with_reducible exact spec_l09Move.mono _ _ _ _ _)
   | (with_reducible exact spec_l27Meet.mono _ _ _)
   | (with_reducible exact LeO.refl _)
   | (with_reducible exact LeO.none _)
   | (with_reducible refine LeO.ite ?_ ?_)
   | (with_reducible refine LeO.bind ?_ (fun _ => ?_))
   | exact ih0 _ _ _ _ _ _
   | exact ih1 _ _ _ _ _ _ _
   | exact spec_l09Move.mono _ _ _ _ _
   | exact spec_l27Meet.mono _ _ _
   | exact LeO.none _
   | refine LeO.ite ?_ ?_
   | refine LeO.bind ?_ (fun _ => ?_)
  ·intro y0 y1 y2 y3 y4 y5 y6
   unfold spec_l27Leaves.l1
   repeat' first
   | (with_reducible exact ih0 _ _ _ _ _ _)
   | (with_reducible exact ih1 _ _ _ _ _ _ _)
   | (with_reducible exact spec_l09Move.mono _ _ _ _ _)
   | (with_reducible exact spec_l27Meet.mono _ _ _)
   | (with_reducible exact LeO.refl _)
   | (with_reducible exact LeO.none _)
   | (with_reducible refine LeO.ite ?_ ?_)
   | (with_reducible refine LeO.bind ?_ (fun _ => ?_))
   | exact ih0 _ _ _ _ _ _
   | exact ih1 _ _ _ _ _ _ _
   | exact spec_l09Move.mono _ _ _ _ _
   | exact spec_l27Meet.mono _ _ _
   | exact LeO.none _
   | refine LeO.ite ?_ ?_
   | refine LeO.bind ?_ (fun _ => ?_)
theorem spec_l27Leaves.mono : ∀ a0 a1 a2 a3 k, LeO (spec_l27Leaves.f k a0 a1 a2 a3) (spec_l27Leaves.f (k + 1) a0 a1 a2 a3) := by
 intro a0 a1 a2 a3 k
 obtain ⟨ih0, ih1⟩ := spec_l27Leaves.mono_l k
 unfold spec_l27Leaves.f
 repeat' first
   | (with_reducible exact ih0 _ _ _ _ _ _)
   | (with_reducible exact ih1 _ _ _ _ _ _ _)
   | (with_reducible exact spec_l09Move.mono _ _ _ _ _)
   | (with_reducible exact spec_l27Meet.mono _ _ _)
   | (with_reducible exact LeO.refl _)
   | (with_reducible exact LeO.none _)
   | (with_reducible refine LeO.ite ?_ ?_)
   | (with_reducible refine LeO.bind ?_ (fun _ => ?_))
   | exact ih0 _ _ _ _ _ _
   | exact ih1 _ _ _ _ _ _ _
   | exact spec_l09Move.mono _ _ _ _ _
   | exact spec_l27Meet.mono _ _ _
   | exact LeO.none _
   | refine LeO.ite ?_ ?_
   | refine LeO.bind ?_ (fun _ => ?_)
def spec_l27Leaves.T1 : Bool × List (List Nat × List Nat) := (true, [([], []), ([0], [0]), ([], []), ([1, 2], [1, 2]), ([3], [3]), ([], []), ([], []), ([5, 6], [5, 6]), ([7], [7]), ([4, 8], [4, 8]), ([9, 9, 0, 1, 2, 3, 4, 5, 6, 7, 8, 9], [9])])
def spec_l27Leaves.B1 : List Nat := [0, 1, 0, 7, 15, 0, 0, 96, 224, 511, 1023]
theorem spec_l27Leaves.tab1 : rtab .any (opsOf Try.f73 1) = spec_l27Leaves.T1 := by kernel_rfl
theorem spec_l27Leaves.bits1 : waitsOk spec_l27Leaves.T1.2 spec_l27Leaves.B1 = true := by kernel_rfl
def spec_l27Leaves.T9 : Bool × List (List Nat × List Nat) := (true, [([], []), ([], []), ([0, 1], [0, 1]), ([2], [2]), ([3], [3]), ([3], [3]), ([5, 3], [3, 5]), ([3], [3]), ([6, 7, 3], [3, 6, 7]), ([8, 3], [3, 8]), ([3], [3]), ([3], [3]), ([10, 11, 3], [3, 10, 11]), ([12, 3], [3, 12]), ([9, 13, 3, 3], [3, 9, 13]), ([4, 14, 14, 3], [3, 4, 14]), ([3, 15], [3, 15])])
def spec_l27Leaves.B9 : List Nat := [0, 0, 3, 7, 15, 15, 47, 15, 239, 495, 15, 15, 3087, 7183, 16367, 32767, 65535]
theorem spec_l27Leaves.tab9 : rtab .any (opsOf Try.f73 9) = spec_l27Leaves.T9 := by kernel_rfl
theorem spec_l27Leaves.bits9 : waitsOk spec_l27Leaves.T9.2 spec_l27Leaves.B9 = true := by kernel_rfl
set_option maxHeartbeats 8000000 in
set_option maxRecDepth 100000 in
theorem spec_l27Leaves.calls (k : Nat) (A0_0 : Option Addr) (c0_0 : Nat) (l0_0 : List (List (S71))) (A1 : Option Addr) (c1 : Nat) (l1 : List (S71)) (a2 : Int) (a3 : Int) (r : Bool) (w : World) (hr0_0 : Kd.C (Kd.slice 71 k71) w A0_0 l0_0.length l0_0) (hc0_0 : l0_0.length ≤ c0_0) (hr1 : Kd.C k71 w A1 l1.length l1) (hc1 : l1.length ≤ c1) (h : spec_l27Leaves.f k l0_0 l1 a2 a3 = some r) :
  Calls Try.prog 73 #[.agg #[.slice A0_0 l0_0.length c0_0], .slice A1 l1.length c1, .int .i64 a2, .int .i64 a3] w fun e w' => e = .returned (.bool r) ∧ Below w.heap.size w w' := by
 have hu29 := Try.underlying29
 have hu71 := Try.underlying71
 have HR0_0 := am hr0_0
 have HC0_0 := am hc0_0
 clear hr0_0 hc0_0
 have HR1 := am hr1
 have HC1 := am hc1
 clear hr1 hc1
 have HB := am (Below.refl w.heap.size w)
 have H : (if 0 ≤ a2 then (if a2 < (l0_0.length : Int) then (if a2 < (l1.length : Int) then ((spec_l09Move.f k (rd_L4 l0_0 a2) ((rd_T71 l1 a2).f0) ((rd_T71 l1 a2).f1) ((rd_T71 l1 a2).f2)).bind fun t312 => (spec_l27Leaves.l0 k l1 a2 a3 t312 0 l0_0)) else (none)) else (none)) else (none)) = some r := h
 clear h
 by_cases c5 : 0 ≤ a2
 rotate_left
 ·rw [if_neg c5] at H
  exact absurd H (by simp)
 rw [if_pos c5] at H
 have c5b0 : decide (0 ≤ a2) = true := decide_eq_true c5
 clear c5
 by_cases c6 : a2 < (l0_0.length : Int)
 rotate_left
 ·rw [if_neg c6] at H
  exact absurd H (by simp)
 rw [if_pos c6] at H
 have c6b0 : decide (a2 < (l0_0.length : Int)) = true := decide_eq_true c6
 clear c6
 by_cases c7 : a2 < (l1.length : Int)
 rotate_left
 ·rw [if_neg c7] at H
  exact absurd H (by simp)
 rw [if_pos c7] at H
 have c7b0 : decide (a2 < (l1.length : Int)) = true := decide_eq_true c7
 clear c7
 replace H := ob H
 obtain ⟨t312, A80, H⟩ := H
 (try dsimp only at H)
 have A8 := am A80
 clear A80
 have H' := am H
 clear H
 go_enter Try.func73, Try.ntmps73
 try go_wp2_with (first | ((with_reducible refine gate_dst (N := 4) rfl ?_); refine box_event ?hg (N := 4) ?hd (cs := #[.slice A0_0 l0_0.length c0_0]) (t := 29) ?hr ?_; (case hd => rfl); (case hg => rfl); (case hr => first | (go_simp; done) | (go_simp; rfl)); intro gb309 hg w9 hbox hb; have n0_ := am (Bb6 zB hb); have n1_ := am (hbox); have n2_ := am ((by rw [hg]; exact (Bb5 zB) : w.heap.size ≤ gb309)); have n3_ := n2_; clear HB; have HB := n0_; have BK309 := n1_; have GW309 := n2_; have GE309 := n3_; clear n0_ n1_ n2_ n3_; clear hb hbox hg))
 have n0_ := am (Bk3 BK309.out)
 have n1_ := am (Bb3 HB.out)
 clear BK309
 clear HB
 have BK309 := n0_
 have HB := n1_
 clear n0_ n1_
 have p310 : 0 ≤ (a2 : Int) := zD
 have q310 : a2 < (l0_0.length : Int) := zD
 obtain ⟨ad310, A310_0, c310_0, e310, hx310_0, hl310_0, hi310_0⟩ := at_L4 HR0_0.out a2 p310 q310
 have hw310_0 := hx310_0
 cases e310
 replace hx310_0 := pc HB.out hx310_0
 have HR310_0 := am hi310_0
 have HC310_0 := am hl310_0
 clear hi310_0 hl310_0
 replace p310 := eq_true p310
 replace q310 := eq_true q310
 have p311 : 0 ≤ (a2 : Int) := zD
 have q311 : a2 < (l1.length : Int) := zD
 obtain ⟨ad311, e311, hx311_0, hx311_1, hx311_2⟩ := at_T71 HR1.out a2 p311 q311
 have hw311_2 := hx311_2
 have hw311_1 := hx311_1
 have hw311_0 := hx311_0
 cases e311
 replace hx311_0 := pc HB.out hx311_0
 replace hx311_1 := pc HB.out hx311_1
 replace hx311_2 := pc HB.out hx311_2
 replace p311 := eq_true p311
 replace q311 := eq_true q311
 refine start_ (n := 11) (S := fun w' => w'.cell? ⟨gb309, 0, none⟩ = some (.slice (some ad310) l0_0.length c0_0) ∧ w'.cell? (ad310.add (a2).toNat) = some (.slice A310_0 (rd_L4 l0_0 a2).length c310_0) ∧ w'.cell? (ad311.add ((a2).toNat * 3)) = some (.int .i64 ((rd_T71 l1 a2).f0)) ∧ w'.cell? ⟨(ad311.add ((a2).toNat * 3)).block, (ad311.add ((a2).toNat * 3)).off + 1, none⟩ = some (.int .i64 ((rd_T71 l1 a2).f1)) ∧ w'.cell? ⟨(ad311.add ((a2).toNat * 3)).block, (ad311.add ((a2).toNat * 3)).off + 2, none⟩ = some (.int .i64 ((rd_T71 l1 a2).f2))) (ds := []) #[z',z',z',z',z',z',z',z',z',z',z'] (by kernel_rfl) rfl rfl ⟨(kc BK309.out 0).trans rfl, (pc HB.out hw310_0), (pc HB.out hw311_0), (pc HB.out hw311_1), (pc HB.out hw311_2)⟩ (fun hHeld => ?_); refine with_tabW spec_l27Leaves.tab1 spec_l27Leaves.bits1 (fun HT_ HW_ => ?_)
 generalize w9.drew = w10 at BK309 HB HR310_0 hx310_0 hx311_0 hx311_1 hx311_2 hHeld ⊢
 refine pure_ (i := 0) (N := some 12) (v := ?_) (a' := ?_) #[o',z',z',z',z',z',z',z',z',z',z'] rfl rfl zA (fun _ _ _ h => h) (Or.inl ⟨by rfl, ?_⟩) ?_ ?_
 rotate_left
 ·intro w'
  go_simp
  with_reducible rfl
 rotate_left
 ·exact zP
 refine pure_ (i := 2) (N := some 14) (v := ?_) (a' := ?_) #[o',z',o',z',z',z',z',z',z',z',z'] rfl rfl zA (fun _ _ _ h => h) (Or.inl ⟨by rfl, ?_⟩) ?_ ?_
 rotate_left
 ·intro w'
  go_simp
  with_reducible rfl
 rotate_left
 ·exact zP
 refine pure_ (i := 5) (N := some 17) (v := ?_) (a' := ?_) #[o',z',o',z',z',o',z',z',z',z',z'] rfl rfl zA (fun _ _ _ h => h) (Or.inl ⟨by rfl, ?_⟩) ?_ ?_
 rotate_left
 ·intro w'
  go_simp
  with_reducible rfl
 rotate_left
 ·exact zP
 refine pure_ (i := 6) (N := some 18) (v := ?_) (a' := ?_) #[o',z',o',z',z',o',o',z',z',z',z'] rfl rfl zA (fun _ _ _ h => h) (Or.inl ⟨by rfl, ?_⟩) ?_ ?_
 rotate_left
 ·intro w'
  go_simp
  with_reducible rfl
 rotate_left
 ·exact zP
 refine pure_ (i := 7) (N := some 19) (v := ?_) (a' := ?_) #[o',z',o',z',z',o',o',o',z',z',z'] rfl rfl zA (fun _ _ _ h => h) (Or.inl ⟨by rfl, ?_⟩) ?_ ?_
 rotate_left
 ·intro w'
  go_simp
  with_reducible rfl
 rotate_left
 ·exact zP
 refine take_ (i := 1) (N := some 13) (v := ?_) (a' := ?_) #[o',o',o',z',z',o',o',o',z',z',z'] rfl rfl (take_ofW HT_.out HW_.out (by kernel_rfl)) (fun _ _ _ h => h) (Or.inl ⟨by rfl, ?_⟩) hHeld ?_ ?_
 rotate_left
 ·rintro w' ⟨s0, s1, s2, s3, s4⟩
  go_simp
  with_reducible rfl
 rotate_left
 ·exact zP
 refine pure_ (i := 3) (N := some 15) (v := ?_) (a' := ?_) #[o',o',o',o',z',o',o',o',z',z',z'] rfl rfl zA (fun _ _ _ h => h) (Or.inl ⟨by rfl, ?_⟩) ?_ ?_
 rotate_left
 ·intro w'
  go_simp
  with_reducible rfl
 rotate_left
 ·exact zP
 refine take_ (i := 4) (N := some 16) (v := ?_) (a' := ?_) #[o',o',o',o',o',o',o',o',z',z',z'] rfl rfl (take_ofW HT_.out HW_.out (by kernel_rfl)) (fun _ _ _ h => h) (Or.inl ⟨by rfl, ?_⟩) hHeld ?_ ?_
 rotate_left
 ·rintro w' ⟨s0, s1, s2, s3, s4⟩
  go_simp
  with_reducible rfl
 rotate_left
 ·exact zP
 refine take_ (i := 8) (N := some 20) (v := ?_) (a' := ?_) #[o',o',o',o',o',o',o',o',o',z',z'] rfl rfl (take_ofW HT_.out HW_.out (by kernel_rfl)) (fun _ _ _ h => h) (Or.inl ⟨by rfl, ?_⟩) hHeld ?_ ?_
 rotate_left
 ·rintro w' ⟨s0, s1, s2, s3, s4⟩
  go_simp
  with_reducible rfl
 rotate_left
 ·exact zP
 refine one_ (i := 9) (N := some 21) #[o',o',o',o',o',o',o',o',o',o',z'] rfl rfl (one_of HT_.out (by kernel_rfl)) (by decide) (fun K hK => ?_)
 refine goes_ Try.func77 (by kernel_rfl) rfl #[.slice A310_0 (rd_L4 l0_0 a2).length c310_0, .agg #[.int .i64 ((rd_T71 l1 a2).f0), .int .i64 ((rd_T71 l1 a2).f1), .int .i64 ((rd_T71 l1 a2).f2)]] (by rfl) rfl rfl zL ?_
 with_reducible refine (spec_l09Move.calls k _ _ (rd_L4 l0_0 a2) ((rd_T71 l1 a2).f0) ((rd_T71 l1 a2).f1) ((rd_T71 l1 a2).f2) t312 _ ?side1 ?side2 A8.out).mono ?_
 (case side1 => repeat (first | exact (Kd.C_below HR310_0.out HB.out) | (with_reducible refine Kd.C_alloc ?_ _) | (with_reducible refine Kd.C_drewN ?_ _) | (with_reducible refine Kd.C_drew ?_)))
 (case side2 => exact HC310_0.out)
 rintro e w11 ⟨v313, rfl, ho0, hb⟩
 refine ⟨_, rfl, ?_⟩
 have n0_ := am (Kd.R_lower ho0 (Bb5 (by repeat (first | (with_reducible first | exact HB.out | apply Bb1 | apply Bb2 | apply Bb3 | refine Bb4 ?_ GE309.out) | exact HB.out))))
 have n1_ := am (Bk4 (g := gb309) (o := .cells #[.slice (some ad310) l0_0.length c0_0] 29 (0, 0)) (zK BK309) hb)
 have n2_ := am (Bb6 (by repeat (first | (with_reducible first | exact HB.out | apply Bb1 | apply Bb2 | apply Bb3 | refine Bb4 ?_ GE309.out) | exact HB.out)) hb)
 clear BK309
 clear HB
 have HO314 := n0_
 have BK309 := n1_
 have HB := n2_
 clear n0_ n1_ n2_
 (try clear hb)
 (try clear hb2)
 (try clear hk)
 (try clear hi)
 (try clear ho0)
 refine hK.out _ _ ⟨(kc BK309.out 0).trans rfl, (pc HB.out hw310_0), (pc HB.out hw311_0), (pc HB.out hw311_1), (pc HB.out hw311_2)⟩ (fun hHeld => ?_)
 clear hK K
 refine norm_ (a' := ?_) ?_ ?_
 rotate_left
 ·show Act.put _ (some 21) _ = _
  simp only [Act.put, sa, i64_w, i32_w]
  rfl
 refine pure_ (i := 10) (N := some 9) (v := ?_) (a' := ?_) #[o',o',o',o',o',o',o',o',o',o',o'] rfl rfl zA (fun _ _ _ h => h) (Or.inl ⟨by rfl, ?_⟩) ?_ ?_
 rotate_left
 ·intro w'
  go_simp
  with_reducible rfl
 rotate_left
 ·exact zP
 refine done_ (done_of HT_.out (by kernel_rfl)) ?_
 try go_wp2
 go_loopg [9, 10] k (fun kq v9 v10 w' => ∃ (x9_1 : List (S71)) (x10_1 : Int), v10 = .int .i64 x10_1 ∧ Aside0 (spec_l27Leaves.l0 kq l1 a2 a3 x9_1 x10_1 l0_0 = some r) ∧ Aside0 (kq ≤ k) ∧ Aside0 (Kd.R k71 71 w' w.heap.size (fun _ => True) v9 x9_1) ∧ Aside0 (w'.heap[gb309]? = some (.cells #[(.slice (some ad310) l0_0.length c0_0)] 29 (0, 0))) ∧ Aside0 (Below w.heap.size w w'))
 case atStart => exact ⟨(t312), (0), zS, H', ⟨Nat.le_refl _⟩, ⟨zR HO314⟩, ⟨zK BK309⟩, ⟨by repeat (first | (with_reducible first | exact HB.out | apply Bb1 | apply Bb2 | apply Bb3 | refine Bb4 ?_ GE309.out) | exact HB.out)⟩⟩
 case round =>
  clear H'
  try clear c1
  try clear p2
  try clear c3
  try clear p3
  try clear q3
  try clear hx3
  try clear c5
  try clear c5b0
  try clear c6
  try clear c6b0
  try clear c7
  try clear c7b0
  try clear hx310_0
  try clear hx311_0
  try clear hx311_1
  try clear hx311_2
  try clear p310
  try clear p311
  try clear q310
  try clear q311
  obtain ⟨x9_1, x10_1, rfl, HA, HK1, HO_9, BK309, HB⟩ := hrel
  cases gk with
  | zero => exact absurd HA.out (by simp [spec_l27Leaves.l0])
  | succ k1 =>
   have H := HA.out
   clear HA
   simp only [spec_l27Leaves.l0] at H
   by_cases c12 : x10_1 < 40
   rotate_left
   ·rw [if_neg c12] at H
    have c12b0 : decide (x10_1 < 40) = false := decide_eq_false c12
    clear c12
    obtain rfl := oi H
    go_wp2
    go_ret
    exact ⟨zE, by repeat (first | (with_reducible first | exact HB.out | apply Bb1 | apply Bb2 | apply Bb3 | refine Bb4 ?_ GE309.out) | exact HB.out)⟩
   rw [if_pos c12] at H
   have c12b0 : decide (x10_1 < 40) = true := decide_eq_true c12
   clear c12
   replace H := ob H
   obtain ⟨⟨t315, t316, t317⟩, A130, H⟩ := H
   (try dsimp only at H)
   have A13 := am A130
   clear A130
   replace H := ob H
   obtain ⟨t318, A140, H⟩ := H
   (try dsimp only at H)
   have A14 := am A140
   clear A140
   have H' := am H
   clear H
   go_wp2_with (first | ((with_reducible refine gate_callee (f := 101) rfl ?_); refine goesL_ (some 28) rfl rfl Try.func101 (by kernel_rfl) rfl #[.int .i64 a3] rfl zL ?_; (with_reducible refine (spec_l27Vector.calls a3 t315 t316 t317 _ A13.out).mono ?_); rintro e w15 ⟨rfl, hb⟩; refine ⟨_, rfl, ?_⟩; have n0_ := am (Kd.R_below (zR HO_9) hb); have n1_ := am (Bk4 (g := gb309) (o := .cells #[.slice (some ad310) l0_0.length c0_0] 29 (0, 0)) (zK BK309) hb); have n2_ := am (Bb6 (by repeat (first | (with_reducible first | exact HB.out | apply Bb1 | apply Bb2 | apply Bb3 | refine Bb4 ?_ GE309.out) | exact HB.out)) hb); clear HO_9; clear BK309; clear HB; have HO_9 := n0_; have BK309 := n1_; have HB := n2_; clear n0_ n1_ n2_; (try clear hb); (try clear hb2); (try clear hk); (try clear hi); obtain ⟨Ao16, co16, eo16⟩ := Kd.R_slice HO_9.out; subst eo16) | ((with_reducible refine gate_callee (f := 77) rfl ?_); refine goesL_ (some 29) rfl rfl Try.func77 (by kernel_rfl) rfl #[.slice Ao16 x9_1.length co16, .agg #[.int .i64 t315, .int .i64 t316, .int .i64 t317]] rfl zL ?_; (with_reducible refine (spec_l09Move.calls k1 _ _ x9_1 t315 t316 t317 t318 _ ?side1 ?side2 A14.out).mono ?_); (case side1 => repeat (first | exact (Kd.R_reads' HO_9.out).2.2 | (with_reducible refine Kd.C_alloc ?_ _) | (with_reducible refine Kd.C_drewN ?_ _) | (with_reducible refine Kd.C_drew ?_))); (case side2 => exact (Kd.R_reads' HO_9.out).2.1); rintro e w17 ⟨v319, rfl, ho0, hb⟩; refine ⟨_, rfl, ?_⟩; have n0_ := am (Kd.R_elder' (zR HO_9) (Kd.R_base ho0) hb); have n1_ := am (Kd.R_lower (Kd.R_new' ho0 (Kd.R_lt (zR HO_9))) (Bb5 (by repeat (first | (with_reducible first | exact HB.out | apply Bb1 | apply Bb2 | apply Bb3 | refine Bb4 ?_ GE309.out) | exact HB.out)))); have n2_ := am (Bk4 (g := gb309) (o := .cells #[.slice (some ad310) l0_0.length c0_0] 29 (0, 0)) (zK BK309) hb); have n3_ := am (Bb6 (by repeat (first | (with_reducible first | exact HB.out | apply Bb1 | apply Bb2 | apply Bb3 | refine Bb4 ?_ GE309.out) | exact HB.out)) hb); clear HO_9; clear BK309; clear HB; have HO_9 := n0_; have HO320 := n1_; have BK309 := n2_; have HB := n3_; clear n0_ n1_ n2_ n3_; (try clear hb); (try clear hb2); (try clear hk); (try clear hi); (try clear ho0)))
   go_loopg [11] k1 (fun kq v11 w' => ∃ (x11_2 : Int), v11 = .int .i64 x11_2 ∧ Aside0 (spec_l27Leaves.l1 kq l1 a2 a3 t318 x10_1 x11_2 l0_0 = some r) ∧ Aside0 (kq ≤ k1) ∧ Aside0 (Kd.R k71 71 w' w.heap.size (fun _ => True) v319 t318) ∧ Aside0 (w'.heap[gb309]? = some (.cells #[(.slice (some ad310) l0_0.length c0_0)] 29 (0, 0))) ∧ Aside0 (Below w.heap.size w w'))
   case atStart => exact ⟨(0), zS, H', ⟨Nat.le_refl _⟩, ⟨by (with_reducible repeat (first | apply Kd.R_alloc | apply Kd.R_drewN | apply Kd.R_drew)); exact Kd.R_mono HO320.out (fun _ hk => trivial)⟩, ⟨zK BK309⟩, ⟨by repeat (first | (with_reducible first | exact HB.out | apply Bb1 | apply Bb2 | apply Bb3 | refine Bb4 ?_ GE309.out) | exact HB.out)⟩⟩
   case round =>
    clear H'
    try clear c1
    try clear p2
    try clear c3
    try clear p3
    try clear q3
    try clear hx3
    try clear c5
    try clear c5b0
    try clear c6
    try clear c6b0
    try clear c7
    try clear c7b0
    try clear c10
    try clear c12
    try clear c12b0
    try clear hx310_0
    try clear hx311_0
    try clear hx311_1
    try clear hx311_2
    try clear p2
    try clear p3
    try clear p310
    try clear p311
    try clear q3
    try clear q310
    try clear q311
    obtain ⟨x11_2, rfl, HA, HK2, HO_9, BK309, HB⟩ := hrel
    cases gk with
    | zero => exact absurd HA.out (by simp [spec_l27Leaves.l1])
    | succ k2 =>
     have H := HA.out
     clear HA
     simp only [spec_l27Leaves.l1] at H
     by_cases c18 : x11_2 < (l1.length : Int)
     rotate_left
     ·rw [if_neg c18] at H
      have c18b0 : decide (x11_2 < (l1.length : Int)) = false := decide_eq_false c18
      clear c18
      have H' := am H
      clear H
      go_wp2
      go_roundg k2
      case measure => have := HK1.out; have := HK2.out; omega
      case rel => exact ⟨(t318), (wrap64 (x10_1 + 1)), zS, H', ⟨by have := HK1.out; have := HK2.out; omega⟩, ⟨zR HO_9⟩, ⟨zK BK309⟩, ⟨by repeat (first | (with_reducible first | exact HB.out | apply Bb1 | apply Bb2 | apply Bb3 | refine Bb4 ?_ GE309.out) | exact HB.out)⟩⟩
     rw [if_pos c18] at H
     have c18b0 : decide (x11_2 < (l1.length : Int)) = true := decide_eq_true c18
     clear c18
     by_cases c19 : x11_2 = a2
     ·rw [if_pos c19] at H
      have c19b0 : (x11_2 == a2) = true := beq_iff_eq.mpr c19
      have c19b1 : (x11_2 != a2) = false := bne_eq_false_iff_eq.mpr c19
      clear c19
      have H' := am H
      clear H
      try go_wp2
      have n0_ := am (Kd.R_drew HO_9.out)
      have n1_ := am (Bk3 BK309.out)
      have n2_ := am (Bb3 HB.out)
      clear HO_9
      clear BK309
      clear HB
      have HO_9 := n0_
      have BK309 := n1_
      have HB := n2_
      clear n0_ n1_ n2_
      refine start_ (n := 17) (S := fun w' => True) (ds := []) spec_l27Leaves.m0 (by kernel_rfl) rfl rfl trivial (fun hHeld => ?_); refine with_tabW spec_l27Leaves.tab9 spec_l27Leaves.bits9 (fun HT_ HW_ => ?_)
      generalize wr.drew = w20 at HO_9 BK309 HB hHeld ⊢
      refine pure_ (i := 0) (N := some 36) (v := ?_) (a' := ?_) spec_l27Leaves.m1 rfl rfl zA (fun _ _ _ h => h) (Or.inl ⟨by rfl, ?_⟩) ?_ ?_
      rotate_left
      ·intro w'
       go_simp
       with_reducible rfl
      rotate_left
      ·exact zP
      refine pure_ (i := 1) (N := some 37) (v := ?_) (a' := ?_) spec_l27Leaves.m2 rfl rfl zA (fun _ _ _ h => h) (Or.inl ⟨by rfl, ?_⟩) ?_ ?_
      rotate_left
      ·intro w'
       go_simp
       with_reducible rfl
      rotate_left
      ·exact zP
      refine pure_ (i := 2) (N := some 38) (v := ?_) (a' := ?_) spec_l27Leaves.m3 rfl rfl zA (fun _ _ _ h => h) (Or.inl ⟨by rfl, ?_⟩) ?_ ?_
      rotate_left
      ·intro w'
       go_simp
       with_reducible rfl
      rotate_left
      ·exact zP
      refine pure_ (i := 3) (N := some 39) (v := ?_) (a' := ?_) spec_l27Leaves.m4 rfl rfl zA (fun _ _ _ h => h) (Or.inl ⟨by rfl, ?_⟩) ?_ ?_
      rotate_left
      ·intro w'
       go_simp
       with_reducible rfl
      rotate_left
      ·exact zP
      refine pure_ (i := 4) (N := some 40) (v := undef) (a' := ?_) spec_l27Leaves.m5 rfl rfl zA (fun _ _ _ h => h) (Or.inr ⟨by rfl, rfl⟩) ?_ ?_
      rotate_left
      ·exact zP
      refine pure_ (i := 5) (N := some 41) (v := undef) (a' := ?_) spec_l27Leaves.m6 rfl rfl zA (fun _ _ _ h => h) (Or.inr ⟨by rfl, rfl⟩) ?_ ?_
      rotate_left
      ·exact zP
      refine pure_ (i := 6) (N := some 42) (v := undef) (a' := ?_) #[o',o',o',o',o',o',o',z',z',z',z',z',z',z',z',z',z'] rfl rfl zA (fun _ _ _ h => h) (Or.inr ⟨by rfl, rfl⟩) ?_ ?_
      rotate_left
      ·exact zP
      refine pure_ (i := 7) (N := some 43) (v := undef) (a' := ?_) #[o',o',o',o',o',o',o',o',z',z',z',z',z',z',z',z',z'] rfl rfl zA (fun _ _ _ h => h) (Or.inr ⟨by rfl, rfl⟩) ?_ ?_
      rotate_left
      ·exact zP
      refine pure_ (i := 8) (N := some 44) (v := undef) (a' := ?_) #[o',o',o',o',o',o',o',o',o',z',z',z',z',z',z',z',z'] rfl rfl zA (fun _ _ _ h => h) (Or.inr ⟨by rfl, rfl⟩) ?_ ?_
      rotate_left
      ·exact zP
      refine pure_ (i := 9) (N := some 45) (v := undef) (a' := ?_) #[o',o',o',o',o',o',o',o',o',o',z',z',z',z',z',z',z'] rfl rfl zA (fun _ _ _ h => h) (Or.inr ⟨by rfl, rfl⟩) ?_ ?_
      rotate_left
      ·exact zP
      refine pure_ (i := 10) (N := some 46) (v := undef) (a' := ?_) #[o',o',o',o',o',o',o',o',o',o',o',z',z',z',z',z',z'] rfl rfl zA (fun _ _ _ h => h) (Or.inr ⟨by rfl, rfl⟩) ?_ ?_
      rotate_left
      ·exact zP
      refine pure_ (i := 11) (N := some 47) (v := undef) (a' := ?_) #[o',o',o',o',o',o',o',o',o',o',o',o',z',z',z',z',z'] rfl rfl zA (fun _ _ _ h => h) (Or.inr ⟨by rfl, rfl⟩) ?_ ?_
      rotate_left
      ·exact zP
      refine pure_ (i := 12) (N := some 48) (v := undef) (a' := ?_) spec_l27Leaves.m13 rfl rfl zA (fun _ _ _ h => h) (Or.inr ⟨by rfl, rfl⟩) ?_ ?_
      rotate_left
      ·exact zP
      refine pure_ (i := 13) (N := some 49) (v := undef) (a' := ?_) spec_l27Leaves.m14 rfl rfl zA (fun _ _ _ h => h) (Or.inr ⟨by rfl, rfl⟩) ?_ ?_
      rotate_left
      ·exact zP
      refine pure_ (i := 14) (N := some 50) (v := undef) (a' := ?_) spec_l27Leaves.m15 rfl rfl zA (fun _ _ _ h => h) (Or.inr ⟨by rfl, rfl⟩) ?_ ?_
      rotate_left
      ·exact zP
      refine pure_ (i := 15) (N := some 51) (v := undef) (a' := ?_) spec_l27Leaves.m16 rfl rfl zA (fun _ _ _ h => h) (Or.inr ⟨by rfl, rfl⟩) ?_ ?_
      rotate_left
      ·exact zP
      refine pure_ (i := 16) (N := some 52) (v := ?_) (a' := ?_) spec_l27Leaves.m17 rfl rfl zA (fun _ _ _ h => h) (Or.inl ⟨by rfl, ?_⟩) ?_ ?_
      rotate_left
      ·intro w'
       go_simp
       with_reducible rfl
      rotate_left
      ·exact zP
      refine done_ (done_of HT_.out (by kernel_rfl)) ?_
      try go_wp2
      go_roundg k2
      case measure => have := HK1.out; have := HK2.out; omega
      case rel => exact ⟨(wrap64 (x11_2 + 1)), zS, H', ⟨by have := HK1.out; have := HK2.out; omega⟩, ⟨zR HO_9⟩, ⟨zK BK309⟩, ⟨by repeat (first | (with_reducible first | exact HB.out | apply Bb1 | apply Bb2 | apply Bb3 | refine Bb4 ?_ GE309.out) | exact HB.out)⟩⟩
     rw [if_neg c19] at H
     have c19b0 : (x11_2 == a2) = false := beq_eq_false_iff_ne.mpr c19
     have c19b1 : (x11_2 != a2) = true := bne_iff_ne.mpr c19
     by_cases c21 : 0 ≤ x11_2
     rotate_left
     ·rw [if_neg c21] at H
      exact absurd H (by simp)
     rw [if_pos c21] at H
     have c21b0 : decide (0 ≤ x11_2) = true := decide_eq_true c21
     clear c21
     by_cases c22 : x11_2 < (l0_0.length : Int)
     rotate_left
     ·rw [if_neg c22] at H
      exact absurd H (by simp)
     rw [if_pos c22] at H
     have c22b0 : decide (x11_2 < (l0_0.length : Int)) = true := decide_eq_true c22
     clear c22
     replace H := ob H
     obtain ⟨t323, A230, H⟩ := H
     (try dsimp only at H)
     have A23 := am A230
     clear A230
     replace H := ob H
     obtain ⟨t326, A240, H⟩ := H
     (try dsimp only at H)
     have A24 := am A240
     clear A240
     by_cases c25 : t326 = true
     ·subst c25
      have H1 : (some false) = some r := by first | (rw [if_pos rfl] at H; exact H) | rfl
      clear H
      have H := H1
      clear H1
      obtain rfl := oi H
      try go_wp2
      have n0_ := am (Kd.R_drew HO_9.out)
      have n1_ := am (Bk3 BK309.out)
      have n2_ := am (Bb3 HB.out)
      clear HO_9
      clear BK309
      clear HB
      have HO_9 := n0_
      have BK309 := n1_
      have HB := n2_
      clear n0_ n1_ n2_
      have p321 : 0 ≤ (x11_2 : Int) := zD
      have q321 : x11_2 < (l0_0.length : Int) := zD
      obtain ⟨ad321, A321_0, c321_0, e321, hx321_0, hl321_0, hi321_0⟩ := at_L4 HR0_0.out x11_2 p321 q321
      have hw321_0 := hx321_0
      obtain rfl : ad310 = ad321 := (by injection e321)
      replace hx321_0 := pc HB.out hx321_0
      have HR321_0 := am hi321_0
      have HC321_0 := am hl321_0
      clear hi321_0 hl321_0
      replace p321 := eq_true p321
      replace q321 := eq_true q321
      have p322 : 0 ≤ (x11_2 : Int) := zD
      have q322 : x11_2 < (l1.length : Int) := zD
      obtain ⟨ad322, e322, hx322_0, hx322_1, hx322_2⟩ := at_T71 HR1.out x11_2 p322 q322
      have hw322_2 := hx322_2
      have hw322_1 := hx322_1
      have hw322_0 := hx322_0
      obtain rfl : ad311 = ad322 := (by injection e322)
      replace hx322_0 := pc HB.out hx322_0
      replace hx322_1 := pc HB.out hx322_1
      replace hx322_2 := pc HB.out hx322_2
      replace p322 := eq_true p322
      replace q322 := eq_true q322
      refine start_ (n := 17) (S := fun w' => w'.cell? ⟨gb309, 0, none⟩ = some (.slice (some ad310) l0_0.length c0_0) ∧ w'.cell? (ad310.add (x11_2).toNat) = some (.slice A321_0 (rd_L4 l0_0 x11_2).length c321_0) ∧ w'.cell? (ad311.add ((x11_2).toNat * 3)) = some (.int .i64 ((rd_T71 l1 x11_2).f0)) ∧ w'.cell? ⟨(ad311.add ((x11_2).toNat * 3)).block, (ad311.add ((x11_2).toNat * 3)).off + 1, none⟩ = some (.int .i64 ((rd_T71 l1 x11_2).f1)) ∧ w'.cell? ⟨(ad311.add ((x11_2).toNat * 3)).block, (ad311.add ((x11_2).toNat * 3)).off + 2, none⟩ = some (.int .i64 ((rd_T71 l1 x11_2).f2))) (ds := []) spec_l27Leaves.m0 (by kernel_rfl) rfl rfl ⟨(kc BK309.out 0).trans rfl, (pc HB.out hw321_0), (pc HB.out hw322_0), (pc HB.out hw322_1), (pc HB.out hw322_2)⟩ (fun hHeld => ?_); refine with_tabW spec_l27Leaves.tab9 spec_l27Leaves.bits9 (fun HT_ HW_ => ?_)
      generalize wr.drew = w26 at HO_9 BK309 HB HR321_0 hx321_0 hx322_0 hx322_1 hx322_2 hHeld ⊢
      refine pure_ (i := 0) (N := some 36) (v := ?_) (a' := ?_) spec_l27Leaves.m1 rfl rfl zA (fun _ _ _ h => h) (Or.inl ⟨by rfl, ?_⟩) ?_ ?_
      rotate_left
      ·intro w'
       go_simp
       with_reducible rfl
      rotate_left
      ·exact zP
      refine pure_ (i := 1) (N := some 37) (v := ?_) (a' := ?_) spec_l27Leaves.m2 rfl rfl zA (fun _ _ _ h => h) (Or.inl ⟨by rfl, ?_⟩) ?_ ?_
      rotate_left
      ·intro w'
       go_simp
       with_reducible rfl
      rotate_left
      ·exact zP
      refine pure_ (i := 2) (N := some 38) (v := ?_) (a' := ?_) spec_l27Leaves.m3 rfl rfl zA (fun _ _ _ h => h) (Or.inl ⟨by rfl, ?_⟩) ?_ ?_
      rotate_left
      ·intro w'
       go_simp
       with_reducible rfl
      rotate_left
      ·exact zP
      refine pure_ (i := 3) (N := some 39) (v := ?_) (a' := ?_) spec_l27Leaves.m4 rfl rfl zA (fun _ _ _ h => h) (Or.inl ⟨by rfl, ?_⟩) ?_ ?_
      rotate_left
      ·intro w'
       go_simp
       with_reducible rfl
      rotate_left
      ·exact zP
      refine pure_ (i := 4) (N := some 40) (v := ?_) (a' := ?_) spec_l27Leaves.m5 rfl rfl zA (fun _ _ _ h => h) (Or.inl ⟨by rfl, ?_⟩) ?_ ?_
      rotate_left
      ·intro w'
       go_simp
       with_reducible rfl
      rotate_left
      ·exact zP
      refine pure_ (i := 5) (N := some 41) (v := ?_) (a' := ?_) spec_l27Leaves.m6 rfl rfl zA (fun _ _ _ h => h) (Or.inl ⟨by rfl, ?_⟩) ?_ ?_
      rotate_left
      ·intro w'
       go_simp
       with_reducible rfl
      rotate_left
      ·exact zP
      refine pure_ (i := 7) (N := some 43) (v := ?_) (a' := ?_) spec_l27Leaves.m7 rfl rfl zA (fun _ _ _ h => h) (Or.inl ⟨by rfl, ?_⟩) ?_ ?_
      rotate_left
      ·intro w'
       go_simp
       with_reducible rfl
      rotate_left
      ·exact zP
      refine pure_ (i := 10) (N := some 46) (v := ?_) (a' := ?_) spec_l27Leaves.m8 rfl rfl zA (fun _ _ _ h => h) (Or.inl ⟨by rfl, ?_⟩) ?_ ?_
      rotate_left
      ·intro w'
       go_simp
       with_reducible rfl
      rotate_left
      ·exact zP
      refine pure_ (i := 11) (N := some 47) (v := ?_) (a' := ?_) spec_l27Leaves.m9 rfl rfl zA (fun _ _ _ h => h) (Or.inl ⟨by rfl, ?_⟩) ?_ ?_
      rotate_left
      ·intro w'
       go_simp
       with_reducible rfl
      rotate_left
      ·exact zP
      refine pure_ (i := 12) (N := some 48) (v := ?_) (a' := ?_) spec_l27Leaves.m10 rfl rfl zA (fun _ _ _ h => h) (Or.inl ⟨by rfl, ?_⟩) ?_ ?_
      rotate_left
      ·intro w'
       go_simp
       with_reducible rfl
      rotate_left
      ·exact zP
      refine take_ (i := 6) (N := some 42) (v := ?_) (a' := ?_) spec_l27Leaves.m11 rfl rfl (take_ofW HT_.out HW_.out (by kernel_rfl)) (fun _ _ _ h => h) (Or.inl ⟨by rfl, ?_⟩) hHeld ?_ ?_
      rotate_left
      ·rintro w' ⟨s0, s1, s2, s3, s4⟩
       go_simp
       with_reducible rfl
      rotate_left
      ·exact zP
      refine pure_ (i := 8) (N := some 44) (v := ?_) (a' := ?_) spec_l27Leaves.m12 rfl rfl zA (fun _ _ _ h => h) (Or.inl ⟨by rfl, ?_⟩) ?_ ?_
      rotate_left
      ·intro w'
       go_simp
       with_reducible rfl
      rotate_left
      ·exact zP
      refine take_ (i := 9) (N := some 45) (v := ?_) (a' := ?_) spec_l27Leaves.m13 rfl rfl (take_ofW HT_.out HW_.out (by kernel_rfl)) (fun _ _ _ h => h) (Or.inl ⟨by rfl, ?_⟩) hHeld ?_ ?_
      rotate_left
      ·rintro w' ⟨s0, s1, s2, s3, s4⟩
       go_simp
       with_reducible rfl
      rotate_left
      ·exact zP
      refine take_ (i := 13) (N := some 49) (v := ?_) (a' := ?_) spec_l27Leaves.m14 rfl rfl (take_ofW HT_.out HW_.out (by kernel_rfl)) (fun _ _ _ h => h) (Or.inl ⟨by rfl, ?_⟩) hHeld ?_ ?_
      rotate_left
      ·rintro w' ⟨s0, s1, s2, s3, s4⟩
       go_simp
       with_reducible rfl
      rotate_left
      ·exact zP
      refine one_ (i := 14) (N := some 50) spec_l27Leaves.m15 rfl rfl (one_of HT_.out (by kernel_rfl)) (by decide) (fun K hK => ?_)
      refine goes_ Try.func77 (by kernel_rfl) rfl #[.slice A321_0 (rd_L4 l0_0 x11_2).length c321_0, .agg #[.int .i64 ((rd_T71 l1 x11_2).f0), .int .i64 ((rd_T71 l1 x11_2).f1), .int .i64 ((rd_T71 l1 x11_2).f2)]] (by rfl) rfl rfl zL ?_
      with_reducible refine (spec_l09Move.calls k2 _ _ (rd_L4 l0_0 x11_2) ((rd_T71 l1 x11_2).f0) ((rd_T71 l1 x11_2).f1) ((rd_T71 l1 x11_2).f2) t323 _ ?side1 ?side2 A23.out).mono ?_
      (case side1 => repeat (first | exact (Kd.C_below HR321_0.out HB.out) | (with_reducible refine Kd.C_alloc ?_ _) | (with_reducible refine Kd.C_drewN ?_ _) | (with_reducible refine Kd.C_drew ?_)))
      (case side2 => exact HC321_0.out)
      rintro e w27 ⟨v324, rfl, ho0, hb⟩
      refine ⟨_, rfl, ?_⟩
      have n0_ := am (Kd.R_elder' (zR HO_9) (Kd.R_base ho0) hb)
      have n1_ := am (Kd.R_lower (Kd.R_new' ho0 (Kd.R_lt (zR HO_9))) (Bb5 (by repeat (first | (with_reducible first | exact HB.out | apply Bb1 | apply Bb2 | apply Bb3 | refine Bb4 ?_ GE309.out) | exact HB.out))))
      have n2_ := am (Bk4 (g := gb309) (o := .cells #[.slice (some ad310) l0_0.length c0_0] 29 (0, 0)) (zK BK309) hb)
      have n3_ := am (Bb6 (by repeat (first | (with_reducible first | exact HB.out | apply Bb1 | apply Bb2 | apply Bb3 | refine Bb4 ?_ GE309.out) | exact HB.out)) hb)
      clear HO_9
      clear BK309
      clear HB
      have HO_9 := n0_
      have HO325 := n1_
      have BK309 := n2_
      have HB := n3_
      clear n0_ n1_ n2_ n3_
      (try clear hb)
      (try clear hb2)
      (try clear hk)
      (try clear hi)
      (try clear ho0)
      obtain ⟨Ao28, co28, eo28⟩ := Kd.R_slice HO_9.out
      (first | subst eo28 | (injection eo28 with f1_ f2_ f3_; have f4_ := f1_.symm; have f5_ := f3_.symm; clear f1_ f2_ f3_; subst f4_; subst f5_))
      obtain ⟨Ao29, co29, eo29⟩ := Kd.R_slice HO325.out
      (first | subst eo29 | (injection eo29 with f1_ f2_ f3_; have f4_ := f1_.symm; have f5_ := f3_.symm; clear f1_ f2_ f3_; subst f4_; subst f5_))
      refine hK.out _ _ ⟨(kc BK309.out 0).trans rfl, (pc HB.out hw321_0), (pc HB.out hw322_0), (pc HB.out hw322_1), (pc HB.out hw322_2)⟩ (fun hHeld => ?_)
      clear hK K
      refine norm_ (a' := ?_) ?_ ?_
      rotate_left
      ·show Act.put _ (some 50) _ = _
       simp only [Act.put, sa, i64_w, i32_w]
       rfl
      refine one_ (i := 15) (N := some 51) spec_l27Leaves.m16 rfl rfl (one_of HT_.out (by kernel_rfl)) (by decide) (fun K hK => ?_)
      refine goes_ Try.func57 (by kernel_rfl) rfl #[.slice Ao28 t318.length co28, .slice Ao29 t323.length co29] (by rfl) rfl rfl zL ?_
      with_reducible refine (spec_l27Meet.calls k2 _ _ t318 _ _ t323 true _ ?side1 ?side2 ?side3 ?side4 A24.out).mono ?_
      (case side1 => repeat (first | exact (Kd.R_reads' HO_9.out).2.2 | (with_reducible refine Kd.C_alloc ?_ _) | (with_reducible refine Kd.C_drewN ?_ _) | (with_reducible refine Kd.C_drew ?_)))
      (case side2 => exact (Kd.R_reads' HO_9.out).2.1)
      (case side3 => repeat (first | exact (Kd.R_reads' HO325.out).2.2 | (with_reducible refine Kd.C_alloc ?_ _) | (with_reducible refine Kd.C_drewN ?_ _) | (with_reducible refine Kd.C_drew ?_)))
      (case side4 => exact (Kd.R_reads' HO325.out).2.1)
      rintro e w30 ⟨rfl, hb⟩
      refine ⟨_, rfl, ?_⟩
      have n0_ := am (Kd.R_below (zR HO_9) hb)
      have n1_ := am (Kd.R_below (zR HO325) hb)
      have n2_ := am (Bk4 (g := gb309) (o := .cells #[.slice (some ad310) l0_0.length c0_0] 29 (0, 0)) (zK BK309) hb)
      have n3_ := am (Bb6 (by repeat (first | (with_reducible first | exact HB.out | apply Bb1 | apply Bb2 | apply Bb3 | refine Bb4 ?_ GE309.out) | exact HB.out)) hb)
      clear HO_9
      clear HO325
      clear BK309
      clear HB
      have HO_9 := n0_
      have HO325 := n1_
      have BK309 := n2_
      have HB := n3_
      clear n0_ n1_ n2_ n3_
      (try clear hb)
      (try clear hb2)
      (try clear hk)
      (try clear hi)
      refine hK.out _ _ ⟨(kc BK309.out 0).trans rfl, (pc HB.out hw321_0), (pc HB.out hw322_0), (pc HB.out hw322_1), (pc HB.out hw322_2)⟩ (fun hHeld => ?_)
      clear hK K
      refine norm_ (a' := ?_) ?_ ?_
      rotate_left
      ·show Act.put _ (some 51) _ = _
       simp only [Act.put, sa, i64_w, i32_w]
       rfl
      refine pure_ (i := 16) (N := some 52) (v := ?_) (a' := ?_) spec_l27Leaves.m17 rfl rfl zA (fun _ _ _ h => h) (Or.inl ⟨by rfl, ?_⟩) ?_ ?_
      rotate_left
      ·intro w'
       go_simp
       with_reducible rfl
      rotate_left
      ·exact zP
      refine done_ (done_of HT_.out (by kernel_rfl)) ?_
      try go_wp2
      go_ret
      exact ⟨zE, by repeat (first | (with_reducible first | exact HB.out | apply Bb1 | apply Bb2 | apply Bb3 | refine Bb4 ?_ GE309.out) | exact HB.out)⟩
     replace c25 := ef c25
     subst c25
     have H1 : (spec_l27Leaves.l1 k2 l1 a2 a3 t318 x10_1 (wrap64 (x11_2 + 1)) l0_0) = some r := by first | (rw [if_neg (show ¬ (false = true) by decide)] at H; exact H) | rfl
     clear H
     have H := H1
     clear H1
     have H' := am H
     clear H
     try go_wp2
     have n0_ := am (Kd.R_drew HO_9.out)
     have n1_ := am (Bk3 BK309.out)
     have n2_ := am (Bb3 HB.out)
     clear HO_9
     clear BK309
     clear HB
     have HO_9 := n0_
     have BK309 := n1_
     have HB := n2_
     clear n0_ n1_ n2_
     have p321 : 0 ≤ (x11_2 : Int) := zD
     have q321 : x11_2 < (l0_0.length : Int) := zD
     obtain ⟨ad321, A321_0, c321_0, e321, hx321_0, hl321_0, hi321_0⟩ := at_L4 HR0_0.out x11_2 p321 q321
     have hw321_0 := hx321_0
     obtain rfl : ad310 = ad321 := (by injection e321)
     replace hx321_0 := pc HB.out hx321_0
     have HR321_0 := am hi321_0
     have HC321_0 := am hl321_0
     clear hi321_0 hl321_0
     replace p321 := eq_true p321
     replace q321 := eq_true q321
     have p322 : 0 ≤ (x11_2 : Int) := zD
     have q322 : x11_2 < (l1.length : Int) := zD
     obtain ⟨ad322, e322, hx322_0, hx322_1, hx322_2⟩ := at_T71 HR1.out x11_2 p322 q322
     have hw322_2 := hx322_2
     have hw322_1 := hx322_1
     have hw322_0 := hx322_0
     obtain rfl : ad311 = ad322 := (by injection e322)
     replace hx322_0 := pc HB.out hx322_0
     replace hx322_1 := pc HB.out hx322_1
     replace hx322_2 := pc HB.out hx322_2
     replace p322 := eq_true p322
     replace q322 := eq_true q322
     refine start_ (n := 17) (S := fun w' => w'.cell? ⟨gb309, 0, none⟩ = some (.slice (some ad310) l0_0.length c0_0) ∧ w'.cell? (ad310.add (x11_2).toNat) = some (.slice A321_0 (rd_L4 l0_0 x11_2).length c321_0) ∧ w'.cell? (ad311.add ((x11_2).toNat * 3)) = some (.int .i64 ((rd_T71 l1 x11_2).f0)) ∧ w'.cell? ⟨(ad311.add ((x11_2).toNat * 3)).block, (ad311.add ((x11_2).toNat * 3)).off + 1, none⟩ = some (.int .i64 ((rd_T71 l1 x11_2).f1)) ∧ w'.cell? ⟨(ad311.add ((x11_2).toNat * 3)).block, (ad311.add ((x11_2).toNat * 3)).off + 2, none⟩ = some (.int .i64 ((rd_T71 l1 x11_2).f2))) (ds := []) spec_l27Leaves.m0 (by kernel_rfl) rfl rfl ⟨(kc BK309.out 0).trans rfl, (pc HB.out hw321_0), (pc HB.out hw322_0), (pc HB.out hw322_1), (pc HB.out hw322_2)⟩ (fun hHeld => ?_); refine with_tabW spec_l27Leaves.tab9 spec_l27Leaves.bits9 (fun HT_ HW_ => ?_)
     generalize wr.drew = w31 at HO_9 BK309 HB HR321_0 hx321_0 hx322_0 hx322_1 hx322_2 hHeld ⊢
     refine pure_ (i := 0) (N := some 36) (v := ?_) (a' := ?_) spec_l27Leaves.m1 rfl rfl zA (fun _ _ _ h => h) (Or.inl ⟨by rfl, ?_⟩) ?_ ?_
     rotate_left
     ·intro w'
      go_simp
      with_reducible rfl
     rotate_left
     ·exact zP
     refine pure_ (i := 1) (N := some 37) (v := ?_) (a' := ?_) spec_l27Leaves.m2 rfl rfl zA (fun _ _ _ h => h) (Or.inl ⟨by rfl, ?_⟩) ?_ ?_
     rotate_left
     ·intro w'
      go_simp
      with_reducible rfl
     rotate_left
     ·exact zP
     refine pure_ (i := 2) (N := some 38) (v := ?_) (a' := ?_) spec_l27Leaves.m3 rfl rfl zA (fun _ _ _ h => h) (Or.inl ⟨by rfl, ?_⟩) ?_ ?_
     rotate_left
     ·intro w'
      go_simp
      with_reducible rfl
     rotate_left
     ·exact zP
     refine pure_ (i := 3) (N := some 39) (v := ?_) (a' := ?_) spec_l27Leaves.m4 rfl rfl zA (fun _ _ _ h => h) (Or.inl ⟨by rfl, ?_⟩) ?_ ?_
     rotate_left
     ·intro w'
      go_simp
      with_reducible rfl
     rotate_left
     ·exact zP
     refine pure_ (i := 4) (N := some 40) (v := ?_) (a' := ?_) spec_l27Leaves.m5 rfl rfl zA (fun _ _ _ h => h) (Or.inl ⟨by rfl, ?_⟩) ?_ ?_
     rotate_left
     ·intro w'
      go_simp
      with_reducible rfl
     rotate_left
     ·exact zP
     refine pure_ (i := 5) (N := some 41) (v := ?_) (a' := ?_) spec_l27Leaves.m6 rfl rfl zA (fun _ _ _ h => h) (Or.inl ⟨by rfl, ?_⟩) ?_ ?_
     rotate_left
     ·intro w'
      go_simp
      with_reducible rfl
     rotate_left
     ·exact zP
     refine pure_ (i := 7) (N := some 43) (v := ?_) (a' := ?_) spec_l27Leaves.m7 rfl rfl zA (fun _ _ _ h => h) (Or.inl ⟨by rfl, ?_⟩) ?_ ?_
     rotate_left
     ·intro w'
      go_simp
      with_reducible rfl
     rotate_left
     ·exact zP
     refine pure_ (i := 10) (N := some 46) (v := ?_) (a' := ?_) spec_l27Leaves.m8 rfl rfl zA (fun _ _ _ h => h) (Or.inl ⟨by rfl, ?_⟩) ?_ ?_
     rotate_left
     ·intro w'
      go_simp
      with_reducible rfl
     rotate_left
     ·exact zP
     refine pure_ (i := 11) (N := some 47) (v := ?_) (a' := ?_) spec_l27Leaves.m9 rfl rfl zA (fun _ _ _ h => h) (Or.inl ⟨by rfl, ?_⟩) ?_ ?_
     rotate_left
     ·intro w'
      go_simp
      with_reducible rfl
     rotate_left
     ·exact zP
     refine pure_ (i := 12) (N := some 48) (v := ?_) (a' := ?_) spec_l27Leaves.m10 rfl rfl zA (fun _ _ _ h => h) (Or.inl ⟨by rfl, ?_⟩) ?_ ?_
     rotate_left
     ·intro w'
      go_simp
      with_reducible rfl
     rotate_left
     ·exact zP
     refine take_ (i := 6) (N := some 42) (v := ?_) (a' := ?_) spec_l27Leaves.m11 rfl rfl (take_ofW HT_.out HW_.out (by kernel_rfl)) (fun _ _ _ h => h) (Or.inl ⟨by rfl, ?_⟩) hHeld ?_ ?_
     rotate_left
     ·rintro w' ⟨s0, s1, s2, s3, s4⟩
      go_simp
      with_reducible rfl
     rotate_left
     ·exact zP
     refine pure_ (i := 8) (N := some 44) (v := ?_) (a' := ?_) spec_l27Leaves.m12 rfl rfl zA (fun _ _ _ h => h) (Or.inl ⟨by rfl, ?_⟩) ?_ ?_
     rotate_left
     ·intro w'
      go_simp
      with_reducible rfl
     rotate_left
     ·exact zP
     refine take_ (i := 9) (N := some 45) (v := ?_) (a' := ?_) spec_l27Leaves.m13 rfl rfl (take_ofW HT_.out HW_.out (by kernel_rfl)) (fun _ _ _ h => h) (Or.inl ⟨by rfl, ?_⟩) hHeld ?_ ?_
     rotate_left
     ·rintro w' ⟨s0, s1, s2, s3, s4⟩
      go_simp
      with_reducible rfl
     rotate_left
     ·exact zP
     refine take_ (i := 13) (N := some 49) (v := ?_) (a' := ?_) spec_l27Leaves.m14 rfl rfl (take_ofW HT_.out HW_.out (by kernel_rfl)) (fun _ _ _ h => h) (Or.inl ⟨by rfl, ?_⟩) hHeld ?_ ?_
     rotate_left
     ·rintro w' ⟨s0, s1, s2, s3, s4⟩
      go_simp
      with_reducible rfl
     rotate_left
     ·exact zP
     refine one_ (i := 14) (N := some 50) spec_l27Leaves.m15 rfl rfl (one_of HT_.out (by kernel_rfl)) (by decide) (fun K hK => ?_)
     refine goes_ Try.func77 (by kernel_rfl) rfl #[.slice A321_0 (rd_L4 l0_0 x11_2).length c321_0, .agg #[.int .i64 ((rd_T71 l1 x11_2).f0), .int .i64 ((rd_T71 l1 x11_2).f1), .int .i64 ((rd_T71 l1 x11_2).f2)]] (by rfl) rfl rfl zL ?_
     with_reducible refine (spec_l09Move.calls k2 _ _ (rd_L4 l0_0 x11_2) ((rd_T71 l1 x11_2).f0) ((rd_T71 l1 x11_2).f1) ((rd_T71 l1 x11_2).f2) t323 _ ?side1 ?side2 A23.out).mono ?_
     (case side1 => repeat (first | exact (Kd.C_below HR321_0.out HB.out) | (with_reducible refine Kd.C_alloc ?_ _) | (with_reducible refine Kd.C_drewN ?_ _) | (with_reducible refine Kd.C_drew ?_)))
     (case side2 => exact HC321_0.out)
     rintro e w32 ⟨v324, rfl, ho0, hb⟩
     refine ⟨_, rfl, ?_⟩
     have n0_ := am (Kd.R_elder' (zR HO_9) (Kd.R_base ho0) hb)
     have n1_ := am (Kd.R_lower (Kd.R_new' ho0 (Kd.R_lt (zR HO_9))) (Bb5 (by repeat (first | (with_reducible first | exact HB.out | apply Bb1 | apply Bb2 | apply Bb3 | refine Bb4 ?_ GE309.out) | exact HB.out))))
     have n2_ := am (Bk4 (g := gb309) (o := .cells #[.slice (some ad310) l0_0.length c0_0] 29 (0, 0)) (zK BK309) hb)
     have n3_ := am (Bb6 (by repeat (first | (with_reducible first | exact HB.out | apply Bb1 | apply Bb2 | apply Bb3 | refine Bb4 ?_ GE309.out) | exact HB.out)) hb)
     clear HO_9
     clear BK309
     clear HB
     have HO_9 := n0_
     have HO325 := n1_
     have BK309 := n2_
     have HB := n3_
     clear n0_ n1_ n2_ n3_
     (try clear hb)
     (try clear hb2)
     (try clear hk)
     (try clear hi)
     (try clear ho0)
     obtain ⟨Ao33, co33, eo33⟩ := Kd.R_slice HO_9.out
     (first | subst eo33 | (injection eo33 with f1_ f2_ f3_; have f4_ := f1_.symm; have f5_ := f3_.symm; clear f1_ f2_ f3_; subst f4_; subst f5_))
     obtain ⟨Ao34, co34, eo34⟩ := Kd.R_slice HO325.out
     (first | subst eo34 | (injection eo34 with f1_ f2_ f3_; have f4_ := f1_.symm; have f5_ := f3_.symm; clear f1_ f2_ f3_; subst f4_; subst f5_))
     refine hK.out _ _ ⟨(kc BK309.out 0).trans rfl, (pc HB.out hw321_0), (pc HB.out hw322_0), (pc HB.out hw322_1), (pc HB.out hw322_2)⟩ (fun hHeld => ?_)
     clear hK K
     refine norm_ (a' := ?_) ?_ ?_
     rotate_left
     ·show Act.put _ (some 50) _ = _
      simp only [Act.put, sa, i64_w, i32_w]
      rfl
     refine one_ (i := 15) (N := some 51) spec_l27Leaves.m16 rfl rfl (one_of HT_.out (by kernel_rfl)) (by decide) (fun K hK => ?_)
     refine goes_ Try.func57 (by kernel_rfl) rfl #[.slice Ao33 t318.length co33, .slice Ao34 t323.length co34] (by rfl) rfl rfl zL ?_
     with_reducible refine (spec_l27Meet.calls k2 _ _ t318 _ _ t323 false _ ?side1 ?side2 ?side3 ?side4 A24.out).mono ?_
     (case side1 => repeat (first | exact (Kd.R_reads' HO_9.out).2.2 | (with_reducible refine Kd.C_alloc ?_ _) | (with_reducible refine Kd.C_drewN ?_ _) | (with_reducible refine Kd.C_drew ?_)))
     (case side2 => exact (Kd.R_reads' HO_9.out).2.1)
     (case side3 => repeat (first | exact (Kd.R_reads' HO325.out).2.2 | (with_reducible refine Kd.C_alloc ?_ _) | (with_reducible refine Kd.C_drewN ?_ _) | (with_reducible refine Kd.C_drew ?_)))
     (case side4 => exact (Kd.R_reads' HO325.out).2.1)
     rintro e w35 ⟨rfl, hb⟩
     refine ⟨_, rfl, ?_⟩
     have n0_ := am (Kd.R_below (zR HO_9) hb)
     have n1_ := am (Kd.R_below (zR HO325) hb)
     have n2_ := am (Bk4 (g := gb309) (o := .cells #[.slice (some ad310) l0_0.length c0_0] 29 (0, 0)) (zK BK309) hb)
     have n3_ := am (Bb6 (by repeat (first | (with_reducible first | exact HB.out | apply Bb1 | apply Bb2 | apply Bb3 | refine Bb4 ?_ GE309.out) | exact HB.out)) hb)
     clear HO_9
     clear HO325
     clear BK309
     clear HB
     have HO_9 := n0_
     have HO325 := n1_
     have BK309 := n2_
     have HB := n3_
     clear n0_ n1_ n2_ n3_
     (try clear hb)
     (try clear hb2)
     (try clear hk)
     (try clear hi)
     refine hK.out _ _ ⟨(kc BK309.out 0).trans rfl, (pc HB.out hw321_0), (pc HB.out hw322_0), (pc HB.out hw322_1), (pc HB.out hw322_2)⟩ (fun hHeld => ?_)
     clear hK K
     refine norm_ (a' := ?_) ?_ ?_
     rotate_left
     ·show Act.put _ (some 51) _ = _
      simp only [Act.put, sa, i64_w, i32_w]
      rfl
     refine pure_ (i := 16) (N := some 52) (v := ?_) (a' := ?_) spec_l27Leaves.m17 rfl rfl zA (fun _ _ _ h => h) (Or.inl ⟨by rfl, ?_⟩) ?_ ?_
     rotate_left
     ·intro w'
      go_simp
      with_reducible rfl
     rotate_left
     ·exact zP
     refine done_ (done_of HT_.out (by kernel_rfl)) ?_
     try go_wp2
     go_roundg k2
     case measure => have := HK1.out; have := HK2.out; omega
     case rel => exact ⟨(wrap64 (x11_2 + 1)), zS, H', ⟨by have := HK1.out; have := HK2.out; omega⟩, ⟨by (with_reducible repeat (first | apply Kd.R_alloc | apply Kd.R_drewN | apply Kd.R_drew)); exact Kd.R_mono HO_9.out (fun _ hk => trivial)⟩, ⟨zK BK309⟩, ⟨by repeat (first | (with_reducible first | exact HB.out | apply Bb1 | apply Bb2 | apply Bb3 | refine Bb4 ?_ GE309.out) | exact HB.out)⟩⟩

end Go.Proofs.Ytjgnlakgojookaa.Q
