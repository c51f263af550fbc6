/- Written by a program of this session (wip/tools/pp.py) out of the translation, with the kit's printer. -/
import Derived.Test.YtjgnlakgojookaaQ0
import Derived.Test.YtjgnlakgojookaaQ2
import Derived.Test.YtjgnlakgojookaaQ6
import Derived.Test.YtjgnlakgojookaaQ20
import Derived.Test.YtjgnlakgojookaaQ1
namespace Go.Proofs.Ytjgnlakgojookaa.Q
open Go.RowKit Go.Proofs.YtjgnlakgojookaaW.PrintWords Go.Proofs.YtjgnlakgojookaaW.PrintLast Go.Proofs.YtjgnlakgojookaaW.PrintMore
attribute [local go_sem] max2_int min2_int max_two min_two max_three min_three max_four min_four
set_option linter.unusedVariables false
set_option linter.unusedSimpArgs false

attribute [local go_sem high] eqA71
/-! ### spec_l27Clear: function 66 -/
abbrev spec_l27Clear.m0 : Array Bool := #[z',z',z',z',z',z',z',z',z',z',z',z',z',z',z',z',z',z']
abbrev spec_l27Clear.m1 : Array Bool := #[o',z',z',z',z',z',z',z',z',z',z',z',z',z',z',z',z',z']
abbrev spec_l27Clear.m2 : Array Bool := #[o',z',o',z',z',z',z',z',z',z',z',z',z',z',z',z',z',z']
abbrev spec_l27Clear.m3 : Array Bool := #[o',z',o',z',z',z',z',o',z',z',z',z',z',z',z',z',z',z']
abbrev spec_l27Clear.m4 : Array Bool := #[o',z',o',z',z',z',z',o',z',o',z',z',z',z',z',z',z',z']
abbrev spec_l27Clear.m5 : Array Bool := #[o',z',o',z',z',z',z',o',z',o',z',z',o',z',z',z',z',z']
abbrev spec_l27Clear.m6 : Array Bool := #[o',z',o',z',z',z',z',o',z',o',z',z',o',o',z',z',z',z']
abbrev spec_l27Clear.m7 : Array Bool := #[o',z',o',z',z',z',z',o',z',o',z',z',o',o',o',z',z',z']
abbrev spec_l27Clear.m8 : Array Bool := #[o',o',o',z',z',z',z',o',z',o',z',z',o',o',o',z',z',z']
abbrev spec_l27Clear.m9 : Array Bool := #[o',o',o',o',z',z',z',o',z',o',z',z',o',o',o',z',z',z']
abbrev spec_l27Clear.m10 : Array Bool := #[o',o',o',o',o',z',z',o',z',o',z',z',o',o',o',z',z',z']
abbrev spec_l27Clear.m11 : Array Bool := #[o',o',o',o',o',o',z',o',z',o',z',z',o',o',o',z',z',z']
abbrev spec_l27Clear.m12 : Array Bool := #[o',o',o',o',o',o',z',o',o',o',z',z',o',o',o',z',z',z']
abbrev spec_l27Clear.m13 : Array Bool := #[o',o',o',o',o',o',z',o',o',o',o',z',o',o',o',z',z',z']
abbrev spec_l27Clear.m14 : Array Bool := #[o',o',o',o',o',o',z',o',o',o',o',o',o',o',o',z',z',z']
abbrev spec_l27Clear.m15 : Array Bool := #[o',o',o',o',o',o',z',o',o',o',o',o',o',o',o',o',z',z']
abbrev spec_l27Clear.m16 : Array Bool := #[o',o',o',o',o',o',o',o',o',o',o',o',o',o',o',o',z',z']
abbrev spec_l27Clear.m17 : Array Bool := #[o',o',o',o',o',o',o',o',o',o',o',o',o',o',o',o',o',z']
abbrev spec_l27Clear.m18 : Array Bool := #[o',o',o',o',o',o',o',o',o',o',o',o',o',o',o',o',o',o']
mutual
def spec_l27Clear.j0 : Nat → List (S71) → Bool → List (List (S71)) → Option (Bool)
 | 0, _, _, _ => none
 | k + 1, x1, x20, x259000 => if x20 = true then (some false) else (spec_l27Clear.l0 k x1 0 x259000)
def spec_l27Clear.l0 : Nat → List (S71) → Int → List (List (S71)) → Option (Bool)
 | 0, _, _, _ => none
 | k + 1, x1, x5, x259000 => if x5 < (x1.length : Int) then (if 0 ≤ x5 then ((spec_l01In.f ((rd_T71 x1 x5).f0) (-12) 12).bind fun t262 => (if t262 = true then ((spec_l01In.f ((rd_T71 x1 x5).f1) (-12) 12).bind fun t263 => (if t263 = true then ((spec_l01In.f ((rd_T71 x1 x5).f2) (-12) 12).bind fun t264 => (spec_l27Clear.j2 k x1 x5 (!t264) x259000 ((rd_T71 x1 x5).f0) ((rd_T71 x1 x5).f1) ((rd_T71 x1 x5).f2))) else (spec_l27Clear.j2 k x1 x5 true x259000 ((rd_T71 x1 x5).f0) ((rd_T71 x1 x5).f1) ((rd_T71 x1 x5).f2)))) else (spec_l27Clear.j2 k x1 x5 true x259000 ((rd_T71 x1 x5).f0) ((rd_T71 x1 x5).f1) ((rd_T71 x1 x5).f2)))) else (none)) else (some true)
def spec_l27Clear.j2 : Nat → List (S71) → Int → Bool → List (List (S71)) → Int → Int → Int → Option (Bool)
 | 0, _, _, _, _, _, _, _ => none
 | k + 1, x1, x5, x46, x259000, x262000, x262001, x262002 => if x46 = true then (some false) else (spec_l27Clear.l1 k x1 x5 0 x259000 x262000 x262001 x262002)
def spec_l27Clear.l1 : Nat → List (S71) → Int → Int → List (List (S71)) → Int → Int → Int → Option (Bool)
 | 0, _, _, _, _, _, _, _ => none
 | k + 1, x1, x5, x7, x259000, x262000, x262001, x262002 => if x7 < x5 then (if 0 ≤ x5 then (if x5 < (x259000.length : Int) then ((spec_l09Move.f k (rd_L4 x259000 x5) x262000 x262001 x262002).bind fun t266 => (if 0 ≤ x7 then (if x7 < (x259000.length : Int) then (if x7 < (x1.length : Int) then ((spec_l09Move.f k (rd_L4 x259000 x7) ((rd_T71 x1 x7).f0) ((rd_T71 x1 x7).f1) ((rd_T71 x1 x7).f2)).bind fun t271 => ((spec_l27Meet.f k t266 t271).bind fun t274 => (if t274 = true then (some false) else (spec_l27Clear.l1 k x1 x5 (wrap64 (x7 + 1)) x259000 x262000 x262001 x262002)))) else (none)) else (none)) else (none))) else (none)) else (none)) else (spec_l27Clear.l0 k x1 (wrap64 (x5 + 1)) x259000)
end
def spec_l27Clear.f (k : Nat) (l0_0 : List (List (S71))) (l1 : List (S71)) : Option (Bool) := if (l1.length : Int) = (l0_0.length : Int) then (if 0 < (l1.length : Int) then (spec_l27Clear.j0 k l1 (!(((rd_T71 l1 0).f0) == 0) || (!(((rd_T71 l1 0).f1) == 0) || (!(((rd_T71 l1 0).f2) == 0)))) l0_0) else (none)) else (spec_l27Clear.j0 k l1 true l0_0)
theorem spec_l27Clear.mono_l : ∀ k, (∀ y0 y1 y2, LeO (spec_l27Clear.j0 k y0 y1 y2) (spec_l27Clear.j0 (k + 1) y0 y1 y2)) ∧ (∀ y0 y1 y2, LeO (spec_l27Clear.l0 k y0 y1 y2) (spec_l27Clear.l0 (k + 1) y0 y1 y2)) ∧ (∀ y0 y1 y2 y3 y4 y5 y6, LeO (spec_l27Clear.j2 k y0 y1 y2 y3 y4 y5 y6) (spec_l27Clear.j2 (k + 1) y0 y1 y2 y3 y4 y5 y6)) ∧ (∀ y0 y1 y2 y3 y4 y5 y6, LeO (spec_l27Clear.l1 k y0 y1 y2 y3 y4 y5 y6) (spec_l27Clear.l1 (k + 1) y0 y1 y2 y3 y4 y5 y6))
 | 0 => ⟨fun _ _ _ r h => by simp [spec_l27Clear.j0] at h, fun _ _ _ r h => by simp [spec_l27Clear.l0] at h, fun _ _ _ _ _ _ _ r h => by simp [spec_l27Clear.j2] at h, fun _ _ _ _ _ _ _ r h => by simp [spec_l27Clear.l1] at h⟩
 | k + 1 => by
  obtain ⟨ih0, ih1, ih2, ih3⟩ := spec_l27Clear.mono_l k
  refine ⟨?_, ?_, ?_, ?_⟩
  ·intro y0 y1 y2
   unfold spec_l27Clear.j0
   repeat' first
   | (with_reducible exact ih0 _ _ _)
   | (with_reducible exact ih1 _ _ _)
   | (with_reducible exact ih2 _ _ _ _ _ _ _)
   | (with_reducible exact ih3 _ _ _ _ _ _ _)
   | (with_reducible exact spec_l09Move.mono _ _ _ _ _)
   | (with_reducible exact spec_l27Meet.mono _ _ _)
   | (with_reducible exact LeO.refl _)
   | (with_reducible exact LeO.none _)
   | (with_reducible refine LeO.ite ?_ ?_)
   | (with_reducible refine LeO.bind ?_ (fun _ => ?_))
   | exact ih0 _ _ _
   | exact ih1 _ _ _
   | exact ih2 _ _ _ _ _ _ _
   | exact ih3 _ _ _ _ _ _ _
   | exact spec_l09Move.mono _ _ _ _ _
   | exact spec_l27Meet.mono _ _ _
   | exact LeO.none _
   | refine LeO.ite ?_ ?_
   | refine LeO.bind ?_ (fun _ => ?_)
  ·intro y0 y1 y2
   unfold spec_l27Clear.l0
   repeat' first
   | (with_reducible exact ih0 _ _ _)
   | (with_reducible exact ih1 _ _ _)
   | (with_reducible exact ih2 _ _ _ _ _ _ _)
   | (with_reducible exact ih3 _ _ _ _ _ _ _)
   | (with_reducible exact spec_l09Move.mono _ _ _ _ _)
   | (with_reducible exact spec_l27Meet.mono _ _ _)
   | (with_reducible exact LeO.refl _)
   | (with_reducible exact LeO.none _)
   | (with_reducible refine LeO.ite ?_ ?_)
   | (with_reducible refine LeO.bind ?_ (fun _ => ?_))
   | exact ih0 _ _ _
   | exact ih1 _ _ _
   | exact ih2 _ _ _ _ _ _ _
   | exact ih3 _ _ _ _ _ _ _
   | exact spec_l09Move.mono _ _ _ _ _
   | exact spec_l27Meet.mono _ _ _
   | exact LeO.none _
   | refine LeO.ite ?_ ?_
   | refine LeO.bind ?_ (fun _ => ?_)
  ·intro y0 y1 y2 y3 y4 y5 y6
   unfold spec_l27Clear.j2
   repeat' first
   | (with_reducible exact ih0 _ _ _)
   | (with_reducible exact ih1 _ _ _)
   | (with_reducible exact ih2 _ _ _ _ _ _ _)
   | (with_reducible exact ih3 _ _ _ _ _ _ _)
   | (with_reducible exact spec_l09Move.mono _ _ _ _ _)
   | (with_reducible exact spec_l27Meet.mono _ _ _)
   | (with_reducible exact LeO.refl _)
   | (with_reducible exact LeO.none _)
   | (with_reducible refine LeO.ite ?_ ?_)
   | (with_reducible refine LeO.bind ?_ (fun _ => ?_))
   | exact ih0 _ _ _
   | exact ih1 _ _ _
   | exact ih2 _ _ _ _ _ _ _
   | exact ih3 _ _ _ _ _ _ _
   | exact spec_l09Move.mono _ _ _ _ _
   | exact spec_l27Meet.mono _ _ _
   | exact LeO.none _
   | refine LeO.ite ?_ ?_
   | refine LeO.bind ?_ (fun _ => ?_)
  ·intro y0 y1 y2 y3 y4 y5 y6
   unfold spec_l27Clear.l1
   repeat' first
   | (with_reducible exact ih0 _ _ _)
   | (with_reducible exact ih1 _ _ _)
   | (with_reducible exact ih2 _ _ _ _ _ _ _)
   | (with_reducible exact ih3 _ _ _ _ _ _ _)
   | (with_reducible exact spec_l09Move.mono _ _ _ _ _)
   | (with_reducible exact spec_l27Meet.mono _ _ _)
   | (with_reducible exact LeO.refl _)
   | (with_reducible exact LeO.none _)
   | (with_reducible refine LeO.ite ?_ ?_)
   | (with_reducible refine LeO.bind ?_ (fun _ => ?_))
   | exact ih0 _ _ _
   | exact ih1 _ _ _
   | exact ih2 _ _ _ _ _ _ _
   | exact ih3 _ _ _ _ _ _ _
   | exact spec_l09Move.mono _ _ _ _ _
   | exact spec_l27Meet.mono _ _ _
   | exact LeO.none _
   | refine LeO.ite ?_ ?_
   | refine LeO.bind ?_ (fun _ => ?_)
theorem spec_l27Clear.mono : ∀ a0 a1 k, LeO (spec_l27Clear.f k a0 a1) (spec_l27Clear.f (k + 1) a0 a1) := by
 intro a0 a1 k
 obtain ⟨ih0, ih1, ih2, ih3⟩ := spec_l27Clear.mono_l k
 unfold spec_l27Clear.f
 repeat' first
   | (with_reducible exact ih0 _ _ _)
   | (with_reducible exact ih1 _ _ _)
   | (with_reducible exact ih2 _ _ _ _ _ _ _)
   | (with_reducible exact ih3 _ _ _ _ _ _ _)
   | (with_reducible exact spec_l09Move.mono _ _ _ _ _)
   | (with_reducible exact spec_l27Meet.mono _ _ _)
   | (with_reducible exact LeO.refl _)
   | (with_reducible exact LeO.none _)
   | (with_reducible refine LeO.ite ?_ ?_)
   | (with_reducible refine LeO.bind ?_ (fun _ => ?_))
   | exact ih0 _ _ _
   | exact ih1 _ _ _
   | exact ih2 _ _ _ _ _ _ _
   | exact ih3 _ _ _ _ _ _ _
   | exact spec_l09Move.mono _ _ _ _ _
   | exact spec_l27Meet.mono _ _ _
   | exact LeO.none _
   | refine LeO.ite ?_ ?_
   | refine LeO.bind ?_ (fun _ => ?_)
def spec_l27Clear.T12 : Bool × List (List Nat × List Nat) := (true, [([], []), ([0], [0]), ([], []), ([1, 2], [1, 2]), ([3], [3]), ([], []), ([4, 5], [4, 5]), ([], []), ([7], [7]), ([], []), ([8, 9], [8, 9]), ([10], [10]), ([], []), ([], []), ([12, 13], [12, 13]), ([14], [14]), ([11, 15, 6], [11, 15]), ([6, 16, 16], [6, 16])])
def spec_l27Clear.B12 : List Nat := [0, 1, 0, 7, 15, 0, 63, 0, 128, 0, 896, 1920, 0, 0, 12288, 28672, 65535, 131071]
theorem spec_l27Clear.tab12 : rtab .any (opsOf Try.f66 12) = spec_l27Clear.T12 := by kernel_rfl
theorem spec_l27Clear.bits12 : waitsOk spec_l27Clear.T12.2 spec_l27Clear.B12 = true := by kernel_rfl
set_option maxHeartbeats 8000000 in
set_option maxRecDepth 100000 in
theorem spec_l27Clear.calls (k : Nat) (A0_0 : Option Addr) (c0_0 : Nat) (l0_0 : List (List (S71))) (A1 : Option Addr) (c1 : Nat) (l1 : List (S71)) (r : Bool) (w : World) (hr0_0 : Kd.C (Kd.slice 71 k71) w A0_0 l0_0.length l0_0) (hc0_0 : l0_0.length ≤ c0_0) (hr1 : Kd.C k71 w A1 l1.length l1) (hc1 : l1.length ≤ c1) (h : spec_l27Clear.f k l0_0 l1 = some r) :
  Calls Try.prog 66 #[.agg #[.slice A0_0 l0_0.length c0_0], .slice A1 l1.length c1] w fun e w' => e = .returned (.bool r) ∧ Below w.heap.size w w' := by
 have hu29 := Try.underlying29
 have hu71 := Try.underlying71
 have HR0_0 := am hr0_0
 have HC0_0 := am hc0_0
 clear hr0_0 hc0_0
 have HR1 := am hr1
 have HC1 := am hc1
 clear hr1 hc1
 have HB := am (Below.refl w.heap.size w)
 have H : (if (l1.length : Int) = (l0_0.length : Int) then (if 0 < (l1.length : Int) then (spec_l27Clear.j0 k l1 (!(((rd_T71 l1 0).f0) == 0) || (!(((rd_T71 l1 0).f1) == 0) || (!(((rd_T71 l1 0).f2) == 0)))) l0_0) else (none)) else (spec_l27Clear.j0 k l1 true l0_0)) = some r := h
 clear h
 have HC3 := am H
 clear H
 go_enter Try.func66, Try.ntmps66
 go_upto_region 1 with (first | ((with_reducible refine gate_dst (N := 2) rfl ?_); refine box_event ?hg (N := 2) ?hd (cs := #[.slice A0_0 l0_0.length c0_0]) (t := 29) ?hr ?_; (case hd => rfl); (case hg => rfl); (case hr => first | (go_simp; done) | (go_simp; rfl)); intro gb258 hg w4 hbox hb; have n0_ := am (Bb6 zB hb); have n1_ := am (hbox); have n2_ := am ((by rw [hg]; exact (Bb5 zB) : w.heap.size ≤ gb258)); have n3_ := n2_; clear HB; have HB := n0_; have BK258 := n1_; have GW258 := n2_; have GE258 := n3_; clear n0_ n1_ n2_ n3_; clear hb hbox hg))
 (try simp only [Act.put, sa])
 go_cut [20] (fun v20 wc => ∃ (kq : Nat) (x20_2 : Bool), v20 = .bool x20_2 ∧ Aside0 (spec_l27Clear.j0 kq l1 x20_2 l0_0 = some r) ∧ Aside0 (kq ≤ k) ∧ Aside0 (wc.heap[gb258]? = some (.cells #[(.slice A0_0 l0_0.length c0_0)] 29 (0, 0))) ∧ Aside0 (Below w.heap.size w wc))
 case first =>
  have H := HC3.out
  clear HC3
  by_cases c5 : (l1.length : Int) = (l0_0.length : Int)
  rotate_left
  ·rw [if_neg c5] at H
   have c5b0 : ((l1.length : Int) == (l0_0.length : Int)) = false := beq_eq_false_iff_ne.mpr c5
   have c5b1 : ((l1.length : Int) != (l0_0.length : Int)) = true := bne_iff_ne.mpr c5
   have c5b2 : (l1.length == l0_0.length) = false := by first | simpa using c5 | (simp at c5 ⊢; omega)
   (first | rw [c5b0] | (simp only [i64_w, i32_w]; rw [c5b0]) | skip)
   have H' := am H
   clear H
   have hcz8_0 : w4.cell? ⟨gb258, 0, none⟩ = some (.slice A0_0 l0_0.length c0_0) := (kc BK258.out 0).trans rfl
   have hfz8_0 := kf BK258.out 0
   go_wp2
   go_meet
   case rel => exact ⟨_, (true), zS, H', ⟨by first | omega | exact Nat.le_refl _⟩, ⟨zK BK258⟩, ⟨by repeat (first | (with_reducible first | exact HB.out | apply Bb1 | apply Bb2 | apply Bb3 | refine Bb4 ?_ GE258.out) | exact HB.out)⟩⟩
  rw [if_pos c5] at H
  have c5b0 : ((l1.length : Int) == (l0_0.length : Int)) = true := beq_iff_eq.mpr c5
  have c5b1 : ((l1.length : Int) != (l0_0.length : Int)) = false := bne_eq_false_iff_eq.mpr c5
  have c5b2 : (l1.length == l0_0.length) = true := by first | simpa using c5 | (simp at c5 ⊢; omega)
  clear c5
  (first | rw [c5b0] | (simp only [i64_w, i32_w]; rw [c5b0]) | skip)
  by_cases c6 : 0 < (l1.length : Int)
  rotate_left
  ·rw [if_neg c6] at H
   exact absurd H (by simp)
  rw [if_pos c6] at H
  have c6b0 : decide (0 < (l1.length : Int)) = true := decide_eq_true c6
  have c6b1 : decide (0 < l1.length) = true := decide_eq_true (by omega)
  clear c6
  have H' := am H
  clear H
  have hcz7_0 : w4.cell? ⟨gb258, 0, none⟩ = some (.slice A0_0 l0_0.length c0_0) := (kc BK258.out 0).trans rfl
  have hfz7_0 := kf BK258.out 0
  have p259 : 0 ≤ (0 : Int) := (by omega)
  have q259 : 0 < (l1.length : Int) := zD
  obtain ⟨ad259, e259, hx259_0, hx259_1, hx259_2⟩ := at_T71 HR1.out 0 p259 q259
  cases e259
  have qi259 : (0 < l1.length) = True := eq_true (by omega)
  (try rw [show ((0 : Int)).toNat = 0 from rfl] at hx259_0)
  (try rw [show 0 * 3 = 0 from rfl] at hx259_0)
  (try rw [Addr.add_zero'] at hx259_0)
  (try rw [show ((0 : Int)).toNat = 0 from rfl] at hx259_1)
  (try rw [show 0 * 3 = 0 from rfl] at hx259_1)
  (try rw [Addr.add_zero'] at hx259_1)
  (try rw [show ((0 : Int)).toNat = 0 from rfl] at hx259_2)
  (try rw [show 0 * 3 = 0 from rfl] at hx259_2)
  (try rw [Addr.add_zero'] at hx259_2)
  replace hx259_0 := pc HB.out hx259_0
  replace hx259_1 := pc HB.out hx259_1
  replace hx259_2 := pc HB.out hx259_2
  replace p259 := eq_true p259
  replace q259 := eq_true q259
  go_wp2
  go_meet
  case rel => exact ⟨_, ((!(((rd_T71 l1 0).f0) == 0) || (!(((rd_T71 l1 0).f1) == 0) || (!(((rd_T71 l1 0).f2) == 0))))), zS, H', ⟨by first | omega | exact Nat.le_refl _⟩, ⟨zK BK258⟩, ⟨by repeat (first | (with_reducible first | exact HB.out | apply Bb1 | apply Bb2 | apply Bb3 | refine Bb4 ?_ GE258.out) | exact HB.out)⟩⟩
 clear HC3
 try clear c1
 try clear p2
 try clear q2
 try clear hx2
 try clear qi2
 try clear c5
 try clear c5b0
 try clear c5b1
 try clear c5b2
 try clear c6
 try clear c6b0
 try clear c6b1
 try clear hcz7_0
 try clear hcz8_0
 try clear hfz7_0
 try clear hfz8_0
 try clear hx259_0
 try clear hx259_1
 try clear hx259_2
 try clear p259
 try clear q259
 obtain ⟨kq, x20_2, rfl, HA, HJ2, BK258, HB⟩ := hcut
 cases kq with
 | zero => exact absurd HA.out (by simp [spec_l27Clear.j0])
 | succ kj2 =>
  have H := HA.out
  clear HA
  simp only [spec_l27Clear.j0] at H
  by_cases c9 : x20_2 = true
  ·subst c9
   have H1 : (some false) = some r := by first | (rw [if_pos rfl] at H; exact H) | rfl
   clear H
   have H := H1
   clear H1
   obtain rfl := oi H
   go_wp2
   go_ret
   exact ⟨zE, by repeat (first | (with_reducible first | exact HB.out | apply Bb1 | apply Bb2 | apply Bb3 | refine Bb4 ?_ GE258.out) | exact HB.out)⟩
  replace c9 := ef c9
  subst c9
  have H1 : (spec_l27Clear.l0 kj2 l1 0 l0_0) = some r := by first | (rw [if_neg (show ¬ (false = true) by decide)] at H; exact H) | rfl
  clear H
  have H := H1
  clear H1
  have H' := am H
  clear H
  go_wp2
  go_loopg [5] kj2 (fun kq v5 w' => ∃ (x5_2 : Int), v5 = .int .i64 x5_2 ∧ Aside0 (spec_l27Clear.l0 kq l1 x5_2 l0_0 = some r) ∧ Aside0 (kq ≤ kj2) ∧ Aside0 (w'.heap[gb258]? = some (.cells #[(.slice A0_0 l0_0.length c0_0)] 29 (0, 0))) ∧ Aside0 (Below w.heap.size w w'))
  case atStart => exact ⟨(0), zS, H', ⟨Nat.le_refl _⟩, ⟨zK BK258⟩, ⟨by repeat (first | (with_reducible first | exact HB.out | apply Bb1 | apply Bb2 | apply Bb3 | refine Bb4 ?_ GE258.out) | exact HB.out)⟩⟩
  case round =>
   clear H'
   try clear c1
   try clear p2
   try clear q2
   try clear hx2
   try clear qi2
   try clear c5
   try clear c5b0
   try clear c5b1
   try clear c5b2
   try clear c6
   try clear c6b0
   try clear c6b1
   try clear c9
   try clear hcz7_0
   try clear hcz8_0
   try clear hfz7_0
   try clear hfz8_0
   try clear hx259_0
   try clear hx259_1
   try clear hx259_2
   try clear p2
   try clear p259
   try clear q2
   try clear q259
   obtain ⟨x5_2, rfl, HA, HK2, BK258, HB⟩ := hrel
   cases gk with
   | zero => exact absurd HA.out (by simp [spec_l27Clear.l0])
   | succ k2 =>
    have H := HA.out
    clear HA
    simp only [spec_l27Clear.l0] at H
    by_cases c10 : x5_2 < (l1.length : Int)
    rotate_left
    ·rw [if_neg c10] at H
     have c10b0 : decide (x5_2 < (l1.length : Int)) = false := decide_eq_false c10
     clear c10
     obtain rfl := oi H
     go_wp2
     go_ret
     exact ⟨zE, by repeat (first | (with_reducible first | exact HB.out | apply Bb1 | apply Bb2 | apply Bb3 | refine Bb4 ?_ GE258.out) | exact HB.out)⟩
    rw [if_pos c10] at H
    have c10b0 : decide (x5_2 < (l1.length : Int)) = true := decide_eq_true c10
    clear c10
    by_cases c11 : 0 ≤ x5_2
    rotate_left
    ·rw [if_neg c11] at H
     exact absurd H (by simp)
    rw [if_pos c11] at H
    have c11b0 : decide (0 ≤ x5_2) = true := decide_eq_true c11
    clear c11
    have HC12 := am H
    clear H
    have p260 : 0 ≤ (x5_2 : Int) := zD
    have q260 : x5_2 < (l1.length : Int) := zD
    obtain ⟨ad260, e260, hx260_0, hx260_1, hx260_2⟩ := at_T71 HR1.out x5_2 p260 q260
    cases e260
    replace hx260_0 := pc HB.out hx260_0
    replace hx260_1 := pc HB.out hx260_1
    replace hx260_2 := pc HB.out hx260_2
    replace p260 := eq_true p260
    replace q260 := eq_true q260
    go_upto_region 7 with (first | ((with_reducible refine gate_dst (N := 6) rfl ?_); refine box_event ?hg (N := 6) ?hd (cs := #[.int .i64 0, .int .i64 0, .int .i64 0]) (t := 71) ?hr ?_; (case hd => rfl); (case hg => rfl); (case hr => first | (go_simp; done) | (go_simp; rfl)); intro gb261 hg w13 hbox hb; have n0_ := am (Bk4 (g := gb258) (o := .cells #[.slice A0_0 l0_0.length c0_0] 29 (0, 0)) (zK BK258) hb); have n1_ := am (Bb6 (by repeat (first | (with_reducible first | exact HB.out | apply Bb1 | apply Bb2 | apply Bb3 | refine Bb4 ?_ GE258.out) | exact HB.out)) hb); have n2_ := am (hbox); have n3_ := am ((by rw [hg]; exact (Bb5 (by repeat (first | (with_reducible first | exact HB.out | apply Bb1 | apply Bb2 | apply Bb3 | refine Bb4 ?_ GE258.out) | exact HB.out))) : w.heap.size ≤ gb261)); have n4_ := n3_; have n5_ := am ((by rw [hg]; exact nl (Bk5 (g := gb258) (o := .cells #[.slice A0_0 l0_0.length c0_0] 29 (0, 0)) (zK BK258)) : gb258 ≠ gb261)); have n6_ := am ((by rw [hg]; exact ng (Bk5 (g := gb258) (o := .cells #[.slice A0_0 l0_0.length c0_0] 29 (0, 0)) (zK BK258)) : gb261 ≠ gb258)); clear BK258; clear HB; have BK258 := n0_; have HB := n1_; have BK261 := n2_; have GW261 := n3_; have GE261 := n4_; have NB258_261 := n5_; have NB261_258 := n6_; clear n0_ n1_ n2_ n3_ n4_ n5_ n6_; clear hb hbox hg; have hnb14 := NB261_258.out; have hnc14 := NB258_261.out; have hcz15_0 : w13.cell? ⟨gb261, 0, none⟩ = some (.int .i64 0) := (kc BK261.out 0).trans rfl; have hcz15_1 : w13.cell? ⟨gb261, 1, none⟩ = some (.int .i64 0) := (kc BK261.out 1).trans rfl; have hcz15_2 : w13.cell? ⟨gb261, 2, none⟩ = some (.int .i64 0) := (kc BK261.out 2).trans rfl; have hfz15_0 := kf BK261.out 0; have hfz15_1 := kf BK261.out 1; have hfz15_2 := kf BK261.out 2))
    (try simp only [Act.put, sa])
    go_cut [46] (fun v46 wc => ∃ (kq : Nat) (x46_11 : Bool), v46 = .bool x46_11 ∧ Aside0 (spec_l27Clear.j2 kq l1 x5_2 x46_11 l0_0 ((rd_T71 l1 x5_2).f0) ((rd_T71 l1 x5_2).f1) ((rd_T71 l1 x5_2).f2) = some r) ∧ Aside0 (kq ≤ k2) ∧ Aside0 (wc.heap[gb258]? = some (.cells #[(.slice A0_0 l0_0.length c0_0)] 29 (0, 0))) ∧ Aside0 (wc.heap[gb261]? = some (.cells #[.int .i64 ((rd_T71 l1 x5_2).f0), .int .i64 ((rd_T71 l1 x5_2).f1), .int .i64 ((rd_T71 l1 x5_2).f2)] 71 (0, 0))) ∧ Aside0 (Below w.heap.size w wc))
    case first =>
     have H := HC12.out
     clear HC12
     replace H := ob H
     obtain ⟨t262, A160, H⟩ := H
     (try dsimp only at H)
     have A16 := am A160
     clear A160
     by_cases c17 : t262 = true
     rotate_left
     ·replace c17 := ef c17
      subst c17
      have H1 : (spec_l27Clear.j2 k2 l1 x5_2 true l0_0 ((rd_T71 l1 x5_2).f0) ((rd_T71 l1 x5_2).f1) ((rd_T71 l1 x5_2).f2)) = some r := by first | (rw [if_neg (show ¬ (false = true) by decide)] at H; exact H) | rfl
      clear H
      have H := H1
      clear H1
      have H' := am H
      clear H
      have hnb25 := NB261_258.out
      have hnc25 := NB258_261.out
      have hcz26_0 : w13.cell? ⟨gb261, 0, none⟩ = some (.int .i64 0) := (kc BK261.out 0).trans rfl
      have hcz26_1 : w13.cell? ⟨gb261, 1, none⟩ = some (.int .i64 0) := (kc BK261.out 1).trans rfl
      have hcz26_2 : w13.cell? ⟨gb261, 2, none⟩ = some (.int .i64 0) := (kc BK261.out 2).trans rfl
      have hfz26_0 := kf BK261.out 0
      have hfz26_1 := kf BK261.out 1
      have hfz26_2 := kf BK261.out 2
      go_wp2_with (first | ((with_reducible refine gate_callee (f := 54) rfl ?_); refine goesL_ (some 33) rfl rfl Try.func54 (by kernel_rfl) rfl #[.int .i64 ((rd_T71 l1 x5_2).f0), .int .i64 (-12), .int .i64 12] rfl zL ?_; (with_reducible refine (spec_l01In.calls ((rd_T71 l1 x5_2).f0) (-12) 12 false _ A16.out).mono ?_); rintro e w' ⟨rfl, ⟨nd, rfl⟩⟩; refine ⟨_, rfl, ?_⟩))
      go_meet
      case rel => exact ⟨_, (true), zS, H', ⟨by have := HJ2.out; have := HK2.out; first | omega | exact Nat.le_refl _⟩, ⟨by (with_reducible repeat (first | refine Bk2 ?_ _ | refine Bk3 ?_ | refine Bk1 ?_ _)); refine blk_far ?_ NB258_261.out _; (with_reducible repeat (first | refine Bk2 ?_ _ | refine Bk3 ?_ | refine Bk1 ?_ _)); refine blk_far ?_ NB258_261.out _; (with_reducible repeat (first | refine Bk2 ?_ _ | refine Bk3 ?_ | refine Bk1 ?_ _)); refine blk_far ?_ NB258_261.out _; (with_reducible repeat (first | refine Bk2 ?_ _ | refine Bk3 ?_ | refine Bk1 ?_ _)); exact BK258.out⟩, ⟨by (with_reducible repeat (first | refine Bk2 ?_ _ | refine Bk3 ?_ | refine Bk1 ?_ _)); refine blk_put (cs := #[.int .i64 ((rd_T71 l1 x5_2).f0), .int .i64 ((rd_T71 l1 x5_2).f1), .int .i64 0]) ?_ 2 _ rfl; (with_reducible repeat (first | refine Bk2 ?_ _ | refine Bk3 ?_ | refine Bk1 ?_ _)); refine blk_put (cs := #[.int .i64 ((rd_T71 l1 x5_2).f0), .int .i64 0, .int .i64 0]) ?_ 1 _ rfl; (with_reducible repeat (first | refine Bk2 ?_ _ | refine Bk3 ?_ | refine Bk1 ?_ _)); refine blk_put (cs := #[.int .i64 0, .int .i64 0, .int .i64 0]) ?_ 0 _ rfl; (with_reducible repeat (first | refine Bk2 ?_ _ | refine Bk3 ?_ | refine Bk1 ?_ _)); exact BK261.out⟩, ⟨by repeat (first | (with_reducible first | exact HB.out | apply Bb1 | apply Bb2 | apply Bb3 | refine Bb4 ?_ GE258.out | refine Bb4 ?_ GE261.out) | exact HB.out)⟩⟩
     subst c17
     have H1 : ((spec_l01In.f ((rd_T71 l1 x5_2).f1) (-12) 12).bind fun t263 => (if t263 = true then ((spec_l01In.f ((rd_T71 l1 x5_2).f2) (-12) 12).bind fun t264 => (spec_l27Clear.j2 k2 l1 x5_2 (!t264) l0_0 ((rd_T71 l1 x5_2).f0) ((rd_T71 l1 x5_2).f1) ((rd_T71 l1 x5_2).f2))) else (spec_l27Clear.j2 k2 l1 x5_2 true l0_0 ((rd_T71 l1 x5_2).f0) ((rd_T71 l1 x5_2).f1) ((rd_T71 l1 x5_2).f2)))) = some r := by first | (rw [if_pos rfl] at H; exact H) | rfl
     clear H
     have H := H1
     clear H1
     replace H := ob H
     obtain ⟨t263, A180, H⟩ := H
     (try dsimp only at H)
     have A18 := am A180
     clear A180
     by_cases c19 : t263 = true
     rotate_left
     ·replace c19 := ef c19
      subst c19
      have H1 : (spec_l27Clear.j2 k2 l1 x5_2 true l0_0 ((rd_T71 l1 x5_2).f0) ((rd_T71 l1 x5_2).f1) ((rd_T71 l1 x5_2).f2)) = some r := by first | (rw [if_neg (show ¬ (false = true) by decide)] at H; exact H) | rfl
      clear H
      have H := H1
      clear H1
      have H' := am H
      clear H
      have hnb23 := NB261_258.out
      have hnc23 := NB258_261.out
      have hcz24_0 : w13.cell? ⟨gb261, 0, none⟩ = some (.int .i64 0) := (kc BK261.out 0).trans rfl
      have hcz24_1 : w13.cell? ⟨gb261, 1, none⟩ = some (.int .i64 0) := (kc BK261.out 1).trans rfl
      have hcz24_2 : w13.cell? ⟨gb261, 2, none⟩ = some (.int .i64 0) := (kc BK261.out 2).trans rfl
      have hfz24_0 := kf BK261.out 0
      have hfz24_1 := kf BK261.out 1
      have hfz24_2 := kf BK261.out 2
      go_wp2_with (first | ((with_reducible refine gate_callee (f := 54) rfl ?_); refine goesL_ (some 33) rfl rfl Try.func54 (by kernel_rfl) rfl #[.int .i64 ((rd_T71 l1 x5_2).f0), .int .i64 (-12), .int .i64 12] rfl zL ?_; (with_reducible refine (spec_l01In.calls ((rd_T71 l1 x5_2).f0) (-12) 12 true _ A16.out).mono ?_); rintro e w' ⟨rfl, ⟨nd, rfl⟩⟩; refine ⟨_, rfl, ?_⟩) | (go_at_call 54; (with_reducible refine (spec_l01In.calls ((rd_T71 l1 x5_2).f1) (-12) 12 false _ A18.out).mono ?_); rintro e w' ⟨rfl, ⟨nd, rfl⟩⟩))
      go_meet
      case rel => exact ⟨_, (true), zS, H', ⟨by have := HJ2.out; have := HK2.out; first | omega | exact Nat.le_refl _⟩, ⟨by (with_reducible repeat (first | refine Bk2 ?_ _ | refine Bk3 ?_ | refine Bk1 ?_ _)); refine blk_far ?_ NB258_261.out _; (with_reducible repeat (first | refine Bk2 ?_ _ | refine Bk3 ?_ | refine Bk1 ?_ _)); refine blk_far ?_ NB258_261.out _; (with_reducible repeat (first | refine Bk2 ?_ _ | refine Bk3 ?_ | refine Bk1 ?_ _)); refine blk_far ?_ NB258_261.out _; (with_reducible repeat (first | refine Bk2 ?_ _ | refine Bk3 ?_ | refine Bk1 ?_ _)); exact BK258.out⟩, ⟨by (with_reducible repeat (first | refine Bk2 ?_ _ | refine Bk3 ?_ | refine Bk1 ?_ _)); refine blk_put (cs := #[.int .i64 ((rd_T71 l1 x5_2).f0), .int .i64 ((rd_T71 l1 x5_2).f1), .int .i64 0]) ?_ 2 _ rfl; (with_reducible repeat (first | refine Bk2 ?_ _ | refine Bk3 ?_ | refine Bk1 ?_ _)); refine blk_put (cs := #[.int .i64 ((rd_T71 l1 x5_2).f0), .int .i64 0, .int .i64 0]) ?_ 1 _ rfl; (with_reducible repeat (first | refine Bk2 ?_ _ | refine Bk3 ?_ | refine Bk1 ?_ _)); refine blk_put (cs := #[.int .i64 0, .int .i64 0, .int .i64 0]) ?_ 0 _ rfl; (with_reducible repeat (first | refine Bk2 ?_ _ | refine Bk3 ?_ | refine Bk1 ?_ _)); exact BK261.out⟩, ⟨by repeat (first | (with_reducible first | exact HB.out | apply Bb1 | apply Bb2 | apply Bb3 | refine Bb4 ?_ GE258.out | refine Bb4 ?_ GE261.out) | exact HB.out)⟩⟩
     subst c19
     have H1 : ((spec_l01In.f ((rd_T71 l1 x5_2).f2) (-12) 12).bind fun t264 => (spec_l27Clear.j2 k2 l1 x5_2 (!t264) l0_0 ((rd_T71 l1 x5_2).f0) ((rd_T71 l1 x5_2).f1) ((rd_T71 l1 x5_2).f2))) = some r := by first | (rw [if_pos rfl] at H; exact H) | rfl
     clear H
     have H := H1
     clear H1
     replace H := ob H
     obtain ⟨t264, A200, H⟩ := H
     (try dsimp only at H)
     have A20 := am A200
     clear A200
     have H' := am H
     clear H
     have hnb21 := NB261_258.out
     have hnc21 := NB258_261.out
     have hcz22_0 : w13.cell? ⟨gb261, 0, none⟩ = some (.int .i64 0) := (kc BK261.out 0).trans rfl
     have hcz22_1 : w13.cell? ⟨gb261, 1, none⟩ = some (.int .i64 0) := (kc BK261.out 1).trans rfl
     have hcz22_2 : w13.cell? ⟨gb261, 2, none⟩ = some (.int .i64 0) := (kc BK261.out 2).trans rfl
     have hfz22_0 := kf BK261.out 0
     have hfz22_1 := kf BK261.out 1
     have hfz22_2 := kf BK261.out 2
     go_wp2_with (first | ((with_reducible refine gate_callee (f := 54) rfl ?_); refine goesL_ (some 33) rfl rfl Try.func54 (by kernel_rfl) rfl #[.int .i64 ((rd_T71 l1 x5_2).f0), .int .i64 (-12), .int .i64 12] rfl zL ?_; (with_reducible refine (spec_l01In.calls ((rd_T71 l1 x5_2).f0) (-12) 12 true _ A16.out).mono ?_); rintro e w' ⟨rfl, ⟨nd, rfl⟩⟩; refine ⟨_, rfl, ?_⟩) | (go_at_call 54; (with_reducible refine (spec_l01In.calls ((rd_T71 l1 x5_2).f1) (-12) 12 true _ A18.out).mono ?_); rintro e w' ⟨rfl, ⟨nd, rfl⟩⟩) | (go_at_call 54; (with_reducible refine (spec_l01In.calls ((rd_T71 l1 x5_2).f2) (-12) 12 t264 _ A20.out).mono ?_); rintro e w' ⟨rfl, ⟨nd, rfl⟩⟩))
     go_meet
     case rel => exact ⟨_, (!t264), zS, H', ⟨by have := HJ2.out; have := HK2.out; first | omega | exact Nat.le_refl _⟩, ⟨by (with_reducible repeat (first | refine Bk2 ?_ _ | refine Bk3 ?_ | refine Bk1 ?_ _)); refine blk_far ?_ NB258_261.out _; (with_reducible repeat (first | refine Bk2 ?_ _ | refine Bk3 ?_ | refine Bk1 ?_ _)); refine blk_far ?_ NB258_261.out _; (with_reducible repeat (first | refine Bk2 ?_ _ | refine Bk3 ?_ | refine Bk1 ?_ _)); refine blk_far ?_ NB258_261.out _; (with_reducible repeat (first | refine Bk2 ?_ _ | refine Bk3 ?_ | refine Bk1 ?_ _)); exact BK258.out⟩, ⟨by (with_reducible repeat (first | refine Bk2 ?_ _ | refine Bk3 ?_ | refine Bk1 ?_ _)); refine blk_put (cs := #[.int .i64 ((rd_T71 l1 x5_2).f0), .int .i64 ((rd_T71 l1 x5_2).f1), .int .i64 0]) ?_ 2 _ rfl; (with_reducible repeat (first | refine Bk2 ?_ _ | refine Bk3 ?_ | refine Bk1 ?_ _)); refine blk_put (cs := #[.int .i64 ((rd_T71 l1 x5_2).f0), .int .i64 0, .int .i64 0]) ?_ 1 _ rfl; (with_reducible repeat (first | refine Bk2 ?_ _ | refine Bk3 ?_ | refine Bk1 ?_ _)); refine blk_put (cs := #[.int .i64 0, .int .i64 0, .int .i64 0]) ?_ 0 _ rfl; (with_reducible repeat (first | refine Bk2 ?_ _ | refine Bk3 ?_ | refine Bk1 ?_ _)); exact BK261.out⟩, ⟨by repeat (first | (with_reducible first | exact HB.out | apply Bb1 | apply Bb2 | apply Bb3 | refine Bb4 ?_ GE258.out | refine Bb4 ?_ GE261.out) | exact HB.out)⟩⟩
    clear HC12
    try clear c1
    try clear c2
    try clear p2
    try clear q2
    try clear hx2
    try clear qi2
    try clear c5
    try clear c5b0
    try clear c5b1
    try clear c5b2
    try clear c6
    try clear c6b0
    try clear c6b1
    try clear c9
    try clear c10
    try clear c10b0
    try clear c11
    try clear c11b0
    try clear c14
    try clear c17
    try clear c19
    try clear c21
    try clear c23
    try clear c25
    try clear p25
    try clear q25
    try clear hx25
    try clear qi25
    try clear p26
    try clear q26
    try clear hx26
    try clear hcz15_0
    try clear hcz15_1
    try clear hcz15_2
    try clear hcz22_0
    try clear hcz22_1
    try clear hcz22_2
    try clear hcz24_0
    try clear hcz24_1
    try clear hcz24_2
    try clear hcz26_0
    try clear hcz26_1
    try clear hcz26_2
    try clear hcz7_0
    try clear hcz8_0
    try clear hfz15_0
    try clear hfz15_1
    try clear hfz15_2
    try clear hfz22_0
    try clear hfz22_1
    try clear hfz22_2
    try clear hfz24_0
    try clear hfz24_1
    try clear hfz24_2
    try clear hfz26_0
    try clear hfz26_1
    try clear hfz26_2
    try clear hfz7_0
    try clear hfz8_0
    try clear hx259_0
    try clear hx259_1
    try clear hx259_2
    try clear hx260_0
    try clear hx260_1
    try clear hx260_2
    try clear p2
    try clear p259
    try clear p260
    try clear q2
    try clear q259
    try clear q260
    obtain ⟨kq, x46_11, rfl, HA, HJ11, BK258, BK261, HB⟩ := hcut
    cases kq with
    | zero => exact absurd HA.out (by simp [spec_l27Clear.j2])
    | succ kj11 =>
     have H := HA.out
     clear HA
     simp only [spec_l27Clear.j2] at H
     by_cases c27 : x46_11 = true
     ·subst c27
      have H1 : (some false) = some r := by first | (rw [if_pos rfl] at H; exact H) | rfl
      clear H
      have H := H1
      clear H1
      obtain rfl := oi H
      go_wp2
      go_ret
      exact ⟨zE, by repeat (first | (with_reducible first | exact HB.out | apply Bb1 | apply Bb2 | apply Bb3 | refine Bb4 ?_ GE258.out | refine Bb4 ?_ GE261.out) | exact HB.out)⟩
     replace c27 := ef c27
     subst c27
     have H1 : (spec_l27Clear.l1 kj11 l1 x5_2 0 l0_0 ((rd_T71 l1 x5_2).f0) ((rd_T71 l1 x5_2).f1) ((rd_T71 l1 x5_2).f2)) = some r := by first | (rw [if_neg (show ¬ (false = true) by decide)] at H; exact H) | rfl
     clear H
     have H := H1
     clear H1
     have H' := am H
     clear H
     go_wp2
     go_loopg [7] kj11 (fun kq v7 w' => ∃ (x7_4 : Int), v7 = .int .i64 x7_4 ∧ Aside0 (spec_l27Clear.l1 kq l1 x5_2 x7_4 l0_0 ((rd_T71 l1 x5_2).f0) ((rd_T71 l1 x5_2).f1) ((rd_T71 l1 x5_2).f2) = some r) ∧ Aside0 (kq ≤ kj11) ∧ Aside0 (w'.heap[gb258]? = some (.cells #[(.slice A0_0 l0_0.length c0_0)] 29 (0, 0))) ∧ Aside0 (w'.heap[gb261]? = some (.cells #[.int .i64 ((rd_T71 l1 x5_2).f0), .int .i64 ((rd_T71 l1 x5_2).f1), .int .i64 ((rd_T71 l1 x5_2).f2)] 71 (0, 0))) ∧ Aside0 (Below w.heap.size w w'))
     case atStart => exact ⟨(0), zS, H', ⟨Nat.le_refl _⟩, ⟨zK BK258⟩, ⟨zK BK261⟩, ⟨by repeat (first | (with_reducible first | exact HB.out | apply Bb1 | apply Bb2 | apply Bb3 | refine Bb4 ?_ GE258.out | refine Bb4 ?_ GE261.out) | exact HB.out)⟩⟩
     case round =>
      clear H'
      try clear c1
      try clear c2
      try clear p2
      try clear q2
      try clear hx2
      try clear qi2
      try clear c5
      try clear c5b0
      try clear c5b1
      try clear c5b2
      try clear c6
      try clear c6b0
      try clear c6b1
      try clear c9
      try clear c10
      try clear c10b0
      try clear c11
      try clear c11b0
      try clear c14
      try clear c17
      try clear c19
      try clear c21
      try clear c23
      try clear c25
      try clear p25
      try clear q25
      try clear hx25
      try clear qi25
      try clear p26
      try clear q26
      try clear hx26
      try clear c27
      try clear hcz15_0
      try clear hcz15_1
      try clear hcz15_2
      try clear hcz22_0
      try clear hcz22_1
      try clear hcz22_2
      try clear hcz24_0
      try clear hcz24_1
      try clear hcz24_2
      try clear hcz26_0
      try clear hcz26_1
      try clear hcz26_2
      try clear hcz7_0
      try clear hcz8_0
      try clear hfz15_0
      try clear hfz15_1
      try clear hfz15_2
      try clear hfz22_0
      try clear hfz22_1
      try clear hfz22_2
      try clear hfz24_0
      try clear hfz24_1
      try clear hfz24_2
      try clear hfz26_0
      try clear hfz26_1
      try clear hfz26_2
      try clear hfz7_0
      try clear hfz8_0
      try clear hx259_0
      try clear hx259_1
      try clear hx259_2
      try clear hx260_0
      try clear hx260_1
      try clear hx260_2
      try clear p2
      try clear p25
      try clear p259
      try clear p26
      try clear p260
      try clear q2
      try clear q25
      try clear q259
      try clear q26
      try clear q260
      obtain ⟨x7_4, rfl, HA, HK4, BK258, BK261, HB⟩ := hrel
      cases gk with
      | zero => exact absurd HA.out (by simp [spec_l27Clear.l1])
      | succ k4 =>
       have H := HA.out
       clear HA
       simp only [spec_l27Clear.l1] at H
       by_cases c28 : x7_4 < x5_2
       rotate_left
       ·rw [if_neg c28] at H
        have c28b0 : decide (x7_4 < x5_2) = false := decide_eq_false c28
        clear c28
        have H' := am H
        clear H
        go_wp2
        go_roundg k4
        case measure => have := HJ2.out; have := HK2.out; have := HJ11.out; have := HK4.out; omega
        case rel => exact ⟨(wrap64 (x5_2 + 1)), zS, H', ⟨by have := HJ2.out; have := HK2.out; have := HJ11.out; have := HK4.out; omega⟩, ⟨zK BK258⟩, ⟨by repeat (first | (with_reducible first | exact HB.out | apply Bb1 | apply Bb2 | apply Bb3 | refine Bb4 ?_ GE258.out | refine Bb4 ?_ GE261.out) | exact HB.out)⟩⟩
       rw [if_pos c28] at H
       have c28b0 : decide (x7_4 < x5_2) = true := decide_eq_true c28
       clear c28
       by_cases c29 : 0 ≤ x5_2
       rotate_left
       ·rw [if_neg c29] at H
        exact absurd H (by simp)
       rw [if_pos c29] at H
       have c29b0 : decide (0 ≤ x5_2) = true := decide_eq_true c29
       clear c29
       by_cases c30 : x5_2 < (l0_0.length : Int)
       rotate_left
       ·rw [if_neg c30] at H
        exact absurd H (by simp)
       rw [if_pos c30] at H
       have c30b0 : decide (x5_2 < (l0_0.length : Int)) = true := decide_eq_true c30
       clear c30
       replace H := ob H
       obtain ⟨t266, A310, H⟩ := H
       (try dsimp only at H)
       have A31 := am A310
       clear A310
       by_cases c32 : 0 ≤ x7_4
       rotate_left
       ·rw [if_neg c32] at H
        exact absurd H (by simp)
       rw [if_pos c32] at H
       have c32b0 : decide (0 ≤ x7_4) = true := decide_eq_true c32
       clear c32
       by_cases c33 : x7_4 < (l0_0.length : Int)
       rotate_left
       ·rw [if_neg c33] at H
        exact absurd H (by simp)
       rw [if_pos c33] at H
       have c33b0 : decide (x7_4 < (l0_0.length : Int)) = true := decide_eq_true c33
       clear c33
       by_cases c34 : x7_4 < (l1.length : Int)
       rotate_left
       ·rw [if_neg c34] at H
        exact absurd H (by simp)
       rw [if_pos c34] at H
       have c34b0 : decide (x7_4 < (l1.length : Int)) = true := decide_eq_true c34
       clear c34
       replace H := ob H
       obtain ⟨t271, A350, H⟩ := H
       (try dsimp only at H)
       have A35 := am A350
       clear A350
       replace H := ob H
       obtain ⟨t274, A360, H⟩ := H
       (try dsimp only at H)
       have A36 := am A360
       clear A360
       by_cases c37 : t274 = true
       ·subst c37
        have H1 : (some false) = some r := by first | (rw [if_pos rfl] at H; exact H) | rfl
        clear H
        have H := H1
        clear H1
        obtain rfl := oi H
        try go_wp2
        have n0_ := am (Bk3 BK258.out)
        have n1_ := am (Bk3 BK261.out)
        have n2_ := am (Bb3 HB.out)
        clear BK258
        clear BK261
        clear HB
        have BK258 := n0_
        have BK261 := n1_
        have HB := n2_
        clear n0_ n1_ n2_
        have p265 : 0 ≤ (x5_2 : Int) := zD
        have q265 : x5_2 < (l0_0.length : Int) := zD
        obtain ⟨ad265, A265_0, c265_0, e265, hx265_0, hl265_0, hi265_0⟩ := at_L4 HR0_0.out x5_2 p265 q265
        have hw265_0 := hx265_0
        cases e265
        replace hx265_0 := pc HB.out hx265_0
        have HR265_0 := am hi265_0
        have HC265_0 := am hl265_0
        clear hi265_0 hl265_0
        replace p265 := eq_true p265
        replace q265 := eq_true q265
        have p269 : 0 ≤ (x7_4 : Int) := zD
        have q269 : x7_4 < (l0_0.length : Int) := zD
        obtain ⟨ad269, A269_0, c269_0, e269, hx269_0, hl269_0, hi269_0⟩ := at_L4 HR0_0.out x7_4 p269 q269
        have hw269_0 := hx269_0
        obtain rfl : ad265 = ad269 := (by injection e269)
        replace hx269_0 := pc HB.out hx269_0
        have HR269_0 := am hi269_0
        have HC269_0 := am hl269_0
        clear hi269_0 hl269_0
        replace p269 := eq_true p269
        replace q269 := eq_true q269
        have p270 : 0 ≤ (x7_4 : Int) := zD
        have q270 : x7_4 < (l1.length : Int) := zD
        obtain ⟨ad270, e270, hx270_0, hx270_1, hx270_2⟩ := at_T71 HR1.out x7_4 p270 q270
        have hw270_2 := hx270_2
        have hw270_1 := hx270_1
        have hw270_0 := hx270_0
        obtain rfl : ad260 = ad270 := (by injection e270)
        replace hx270_0 := pc HB.out hx270_0
        replace hx270_1 := pc HB.out hx270_1
        replace hx270_2 := pc HB.out hx270_2
        replace p270 := eq_true p270
        replace q270 := eq_true q270
        refine start_ (n := 18) (S := fun w' => w'.cell? ⟨gb258, 0, none⟩ = some (.slice (some ad265) l0_0.length c0_0) ∧ w'.cell? ⟨gb261, 0, none⟩ = some (.int .i64 ((rd_T71 l1 x5_2).f0)) ∧ w'.cell? ⟨gb261, 1, none⟩ = some (.int .i64 ((rd_T71 l1 x5_2).f1)) ∧ w'.cell? ⟨gb261, 2, none⟩ = some (.int .i64 ((rd_T71 l1 x5_2).f2)) ∧ w'.cell? (ad265.add (x5_2).toNat) = some (.slice A265_0 (rd_L4 l0_0 x5_2).length c265_0) ∧ w'.cell? (ad265.add (x7_4).toNat) = some (.slice A269_0 (rd_L4 l0_0 x7_4).length c269_0) ∧ w'.cell? (ad260.add ((x7_4).toNat * 3)) = some (.int .i64 ((rd_T71 l1 x7_4).f0)) ∧ w'.cell? ⟨(ad260.add ((x7_4).toNat * 3)).block, (ad260.add ((x7_4).toNat * 3)).off + 1, none⟩ = some (.int .i64 ((rd_T71 l1 x7_4).f1)) ∧ w'.cell? ⟨(ad260.add ((x7_4).toNat * 3)).block, (ad260.add ((x7_4).toNat * 3)).off + 2, none⟩ = some (.int .i64 ((rd_T71 l1 x7_4).f2))) (ds := []) spec_l27Clear.m0 (by kernel_rfl) rfl rfl ⟨(kc BK258.out 0).trans rfl, (kc BK261.out 0).trans rfl, (kc BK261.out 1).trans rfl, (kc BK261.out 2).trans rfl, (pc HB.out hw265_0), (pc HB.out hw269_0), (pc HB.out hw270_0), (pc HB.out hw270_1), (pc HB.out hw270_2)⟩ (fun hHeld => ?_); refine with_tabW spec_l27Clear.tab12 spec_l27Clear.bits12 (fun HT_ HW_ => ?_)
        generalize wr.drew = w38 at BK258 BK261 HB HR265_0 HR269_0 hx265_0 hx269_0 hx270_0 hx270_1 hx270_2 hHeld ⊢
        refine pure_ (i := 0) (N := some 52) (v := ?_) (a' := ?_) spec_l27Clear.m1 rfl rfl zA (fun _ _ _ h => h) (Or.inl ⟨by rfl, ?_⟩) ?_ ?_
        rotate_left
        ·intro w'
         go_simp
         with_reducible rfl
        rotate_left
        ·exact zP
        refine pure_ (i := 2) (N := some 54) (v := ?_) (a' := ?_) spec_l27Clear.m2 rfl rfl zA (fun _ _ _ h => h) (Or.inl ⟨by rfl, ?_⟩) ?_ ?_
        rotate_left
        ·intro w'
         go_simp
         with_reducible rfl
        rotate_left
        ·exact zP
        refine pure_ (i := 7) (N := some 59) (v := ?_) (a' := ?_) spec_l27Clear.m3 rfl rfl zA (fun _ _ _ h => h) (Or.inl ⟨by rfl, ?_⟩) ?_ ?_
        rotate_left
        ·intro w'
         go_simp
         with_reducible rfl
        rotate_left
        ·exact zP
        refine pure_ (i := 9) (N := some 61) (v := ?_) (a' := ?_) spec_l27Clear.m4 rfl rfl zA (fun _ _ _ h => h) (Or.inl ⟨by rfl, ?_⟩) ?_ ?_
        rotate_left
        ·intro w'
         go_simp
         with_reducible rfl
        rotate_left
        ·exact zP
        refine pure_ (i := 12) (N := some 64) (v := ?_) (a' := ?_) spec_l27Clear.m5 rfl rfl zA (fun _ _ _ h => h) (Or.inl ⟨by rfl, ?_⟩) ?_ ?_
        rotate_left
        ·intro w'
         go_simp
         with_reducible rfl
        rotate_left
        ·exact zP
        refine pure_ (i := 13) (N := some 65) (v := ?_) (a' := ?_) spec_l27Clear.m6 rfl rfl zA (fun _ _ _ h => h) (Or.inl ⟨by rfl, ?_⟩) ?_ ?_
        rotate_left
        ·intro w'
         go_simp
         with_reducible rfl
        rotate_left
        ·exact zP
        refine pure_ (i := 14) (N := some 66) (v := ?_) (a' := ?_) spec_l27Clear.m7 rfl rfl zA (fun _ _ _ h => h) (Or.inl ⟨by rfl, ?_⟩) ?_ ?_
        rotate_left
        ·intro w'
         go_simp
         with_reducible rfl
        rotate_left
        ·exact zP
        refine take_ (i := 1) (N := some 53) (v := ?_) (a' := ?_) spec_l27Clear.m8 rfl rfl (take_ofW HT_.out HW_.out (by kernel_rfl)) (fun _ _ _ h => h) (Or.inl ⟨by rfl, ?_⟩) hHeld ?_ ?_
        rotate_left
        ·rintro w' ⟨s0, s1, s2, s3, s4, s5, s6, s7, s8⟩
         go_simp
         with_reducible rfl
        rotate_left
        ·exact zP
        refine pure_ (i := 3) (N := some 55) (v := ?_) (a' := ?_) spec_l27Clear.m9 rfl rfl zA (fun _ _ _ h => h) (Or.inl ⟨by rfl, ?_⟩) ?_ ?_
        rotate_left
        ·intro w'
         go_simp
         with_reducible rfl
        rotate_left
        ·exact zP
        refine take_ (i := 4) (N := some 56) (v := ?_) (a' := ?_) spec_l27Clear.m10 rfl rfl (take_ofW HT_.out HW_.out (by kernel_rfl)) (fun _ _ _ h => h) (Or.inl ⟨by rfl, ?_⟩) hHeld ?_ ?_
        rotate_left
        ·rintro w' ⟨s0, s1, s2, s3, s4, s5, s6, s7, s8⟩
         go_simp
         with_reducible rfl
        rotate_left
        ·exact zP
        refine take_ (i := 5) (N := some 57) (v := ?_) (a' := ?_) spec_l27Clear.m11 rfl rfl (take_ofW HT_.out HW_.out (by kernel_rfl)) (fun _ _ _ h => h) (Or.inl ⟨by rfl, ?_⟩) hHeld ?_ ?_
        rotate_left
        ·rintro w' ⟨s0, s1, s2, s3, s4, s5, s6, s7, s8⟩
         go_simp
         with_reducible rfl
        rotate_left
        ·exact zP
        refine take_ (i := 8) (N := some 60) (v := ?_) (a' := ?_) spec_l27Clear.m12 rfl rfl (take_ofW HT_.out HW_.out (by kernel_rfl)) (fun _ _ _ h => h) (Or.inl ⟨by rfl, ?_⟩) hHeld ?_ ?_
        rotate_left
        ·rintro w' ⟨s0, s1, s2, s3, s4, s5, s6, s7, s8⟩
         go_simp
         with_reducible rfl
        rotate_left
        ·exact zP
        refine pure_ (i := 10) (N := some 62) (v := ?_) (a' := ?_) spec_l27Clear.m13 rfl rfl zA (fun _ _ _ h => h) (Or.inl ⟨by rfl, ?_⟩) ?_ ?_
        rotate_left
        ·intro w'
         go_simp
         with_reducible rfl
        rotate_left
        ·exact zP
        refine take_ (i := 11) (N := some 63) (v := ?_) (a' := ?_) spec_l27Clear.m14 rfl rfl (take_ofW HT_.out HW_.out (by kernel_rfl)) (fun _ _ _ h => h) (Or.inl ⟨by rfl, ?_⟩) hHeld ?_ ?_
        rotate_left
        ·rintro w' ⟨s0, s1, s2, s3, s4, s5, s6, s7, s8⟩
         go_simp
         with_reducible rfl
        rotate_left
        ·exact zP
        refine take_ (i := 15) (N := some 67) (v := ?_) (a' := ?_) spec_l27Clear.m15 rfl rfl (take_ofW HT_.out HW_.out (by kernel_rfl)) (fun _ _ _ h => h) (Or.inl ⟨by rfl, ?_⟩) hHeld ?_ ?_
        rotate_left
        ·rintro w' ⟨s0, s1, s2, s3, s4, s5, s6, s7, s8⟩
         go_simp
         with_reducible rfl
        rotate_left
        ·exact zP
        refine one_ (i := 6) (N := some 58) spec_l27Clear.m16 rfl rfl (one_of HT_.out (by kernel_rfl)) (by decide) (fun K hK => ?_)
        refine goes_ Try.func77 (by kernel_rfl) rfl #[.slice A265_0 (rd_L4 l0_0 x5_2).length c265_0, .agg #[.int .i64 ((rd_T71 l1 x5_2).f0), .int .i64 ((rd_T71 l1 x5_2).f1), .int .i64 ((rd_T71 l1 x5_2).f2)]] (by rfl) rfl rfl zL ?_
        with_reducible refine (spec_l09Move.calls k4 _ _ (rd_L4 l0_0 x5_2) ((rd_T71 l1 x5_2).f0) ((rd_T71 l1 x5_2).f1) ((rd_T71 l1 x5_2).f2) t266 _ ?side1 ?side2 A31.out).mono ?_
        (case side1 => repeat (first | exact (Kd.C_below HR265_0.out HB.out) | (with_reducible refine Kd.C_alloc ?_ _) | (with_reducible refine Kd.C_drewN ?_ _) | (with_reducible refine Kd.C_drew ?_)))
        (case side2 => exact HC265_0.out)
        rintro e w39 ⟨v267, rfl, ho0, hb⟩
        refine ⟨_, rfl, ?_⟩
        have n0_ := am (Kd.R_lower (Kd.R_newB ho0 (g := gb261) (o := .cells #[.int .i64 ((rd_T71 l1 x5_2).f0), .int .i64 ((rd_T71 l1 x5_2).f1), .int .i64 ((rd_T71 l1 x5_2).f2)] 71 (0, 0)) (zK BK261)) (Bb5 (by repeat (first | (with_reducible first | exact HB.out | apply Bb1 | apply Bb2 | apply Bb3 | refine Bb4 ?_ GE258.out | refine Bb4 ?_ GE261.out) | exact HB.out))))
        have n1_ := am (Bk4 (g := gb258) (o := .cells #[.slice (some ad265) l0_0.length c0_0] 29 (0, 0)) (zK BK258) hb)
        have n2_ := am (Bk4 (g := gb261) (o := .cells #[.int .i64 ((rd_T71 l1 x5_2).f0), .int .i64 ((rd_T71 l1 x5_2).f1), .int .i64 ((rd_T71 l1 x5_2).f2)] 71 (0, 0)) (zK BK261) hb)
        have n3_ := am (Bb6 (by repeat (first | (with_reducible first | exact HB.out | apply Bb1 | apply Bb2 | apply Bb3 | refine Bb4 ?_ GE258.out | refine Bb4 ?_ GE261.out) | exact HB.out)) hb)
        clear BK258
        clear BK261
        clear HB
        have HO268 := n0_
        have BK258 := n1_
        have BK261 := n2_
        have HB := n3_
        clear n0_ n1_ n2_ n3_
        (try clear hb)
        (try clear hb2)
        (try clear hk)
        (try clear hi)
        (try clear ho0)
        refine hK.out _ _ ⟨(kc BK258.out 0).trans rfl, (kc BK261.out 0).trans rfl, (kc BK261.out 1).trans rfl, (kc BK261.out 2).trans rfl, (pc HB.out hw265_0), (pc HB.out hw269_0), (pc HB.out hw270_0), (pc HB.out hw270_1), (pc HB.out hw270_2)⟩ (fun hHeld => ?_)
        clear hK K
        refine norm_ (a' := ?_) ?_ ?_
        rotate_left
        ·show Act.put _ (some 58) _ = _
         simp only [Act.put, sa, i64_w, i32_w]
         rfl
        refine one_ (i := 16) (N := some 68) spec_l27Clear.m17 rfl rfl (one_of HT_.out (by kernel_rfl)) (by decide) (fun K hK => ?_)
        refine goes_ Try.func77 (by kernel_rfl) rfl #[.slice A269_0 (rd_L4 l0_0 x7_4).length c269_0, .agg #[.int .i64 ((rd_T71 l1 x7_4).f0), .int .i64 ((rd_T71 l1 x7_4).f1), .int .i64 ((rd_T71 l1 x7_4).f2)]] (by rfl) rfl rfl zL ?_
        with_reducible refine (spec_l09Move.calls k4 _ _ (rd_L4 l0_0 x7_4) ((rd_T71 l1 x7_4).f0) ((rd_T71 l1 x7_4).f1) ((rd_T71 l1 x7_4).f2) t271 _ ?side1 ?side2 A35.out).mono ?_
        (case side1 => repeat (first | exact (Kd.C_below HR269_0.out HB.out) | (with_reducible refine Kd.C_alloc ?_ _) | (with_reducible refine Kd.C_drewN ?_ _) | (with_reducible refine Kd.C_drew ?_)))
        (case side2 => exact HC269_0.out)
        rintro e w40 ⟨v272, rfl, ho0, hb⟩
        refine ⟨_, rfl, ?_⟩
        have n0_ := am (Kd.R_elder' (zR HO268) (Kd.R_base ho0) hb)
        have n1_ := am (Kd.R_lower (Kd.R_newB (Kd.R_new' ho0 (Kd.R_lt (zR HO268))) (g := gb261) (o := .cells #[.int .i64 ((rd_T71 l1 x5_2).f0), .int .i64 ((rd_T71 l1 x5_2).f1), .int .i64 ((rd_T71 l1 x5_2).f2)] 71 (0, 0)) (zK BK261)) (Bb5 (by repeat (first | (with_reducible first | exact HB.out | apply Bb1 | apply Bb2 | apply Bb3 | refine Bb4 ?_ GE258.out | refine Bb4 ?_ GE261.out) | exact HB.out))))
        have n2_ := am (Bk4 (g := gb258) (o := .cells #[.slice (some ad265) l0_0.length c0_0] 29 (0, 0)) (zK BK258) hb)
        have n3_ := am (Bk4 (g := gb261) (o := .cells #[.int .i64 ((rd_T71 l1 x5_2).f0), .int .i64 ((rd_T71 l1 x5_2).f1), .int .i64 ((rd_T71 l1 x5_2).f2)] 71 (0, 0)) (zK BK261) hb)
        have n4_ := am (Bb6 (by repeat (first | (with_reducible first | exact HB.out | apply Bb1 | apply Bb2 | apply Bb3 | refine Bb4 ?_ GE258.out | refine Bb4 ?_ GE261.out) | exact HB.out)) hb)
        clear HO268
        clear BK258
        clear BK261
        clear HB
        have HO268 := n0_
        have HO273 := n1_
        have BK258 := n2_
        have BK261 := n3_
        have HB := n4_
        clear n0_ n1_ n2_ n3_ n4_
        (try clear hb)
        (try clear hb2)
        (try clear hk)
        (try clear hi)
        (try clear ho0)
        obtain ⟨Ao41, co41, eo41⟩ := Kd.R_slice HO268.out
        (first | subst eo41 | (injection eo41 with f1_ f2_ f3_; have f4_ := f1_.symm; have f5_ := f3_.symm; clear f1_ f2_ f3_; subst f4_; subst f5_))
        obtain ⟨Ao42, co42, eo42⟩ := Kd.R_slice HO273.out
        (first | subst eo42 | (injection eo42 with f1_ f2_ f3_; have f4_ := f1_.symm; have f5_ := f3_.symm; clear f1_ f2_ f3_; subst f4_; subst f5_))
        refine hK.out _ _ ⟨(kc BK258.out 0).trans rfl, (kc BK261.out 0).trans rfl, (kc BK261.out 1).trans rfl, (kc BK261.out 2).trans rfl, (pc HB.out hw265_0), (pc HB.out hw269_0), (pc HB.out hw270_0), (pc HB.out hw270_1), (pc HB.out hw270_2)⟩ (fun hHeld => ?_)
        clear hK K
        refine norm_ (a' := ?_) ?_ ?_
        rotate_left
        ·show Act.put _ (some 68) _ = _
         simp only [Act.put, sa, i64_w, i32_w]
         rfl
        refine one_ (i := 17) (N := some 69) spec_l27Clear.m18 rfl rfl (one_of HT_.out (by kernel_rfl)) (by decide) (fun K hK => ?_)
        refine goes_ Try.func57 (by kernel_rfl) rfl #[.slice Ao41 t266.length co41, .slice Ao42 t271.length co42] (by rfl) rfl rfl zL ?_
        with_reducible refine (spec_l27Meet.calls k4 _ _ t266 _ _ t271 true _ ?side1 ?side2 ?side3 ?side4 A36.out).mono ?_
        (case side1 => repeat (first | exact (Kd.R_reads' HO268.out).2.2 | (with_reducible refine Kd.C_alloc ?_ _) | (with_reducible refine Kd.C_drewN ?_ _) | (with_reducible refine Kd.C_drew ?_)))
        (case side2 => exact (Kd.R_reads' HO268.out).2.1)
        (case side3 => repeat (first | exact (Kd.R_reads' HO273.out).2.2 | (with_reducible refine Kd.C_alloc ?_ _) | (with_reducible refine Kd.C_drewN ?_ _) | (with_reducible refine Kd.C_drew ?_)))
        (case side4 => exact (Kd.R_reads' HO273.out).2.1)
        rintro e w43 ⟨rfl, hb⟩
        refine ⟨_, rfl, ?_⟩
        have n0_ := am (Kd.R_below (zR HO268) hb)
        have n1_ := am (Kd.R_below (zR HO273) hb)
        have n2_ := am (Bk4 (g := gb258) (o := .cells #[.slice (some ad265) l0_0.length c0_0] 29 (0, 0)) (zK BK258) hb)
        have n3_ := am (Bk4 (g := gb261) (o := .cells #[.int .i64 ((rd_T71 l1 x5_2).f0), .int .i64 ((rd_T71 l1 x5_2).f1), .int .i64 ((rd_T71 l1 x5_2).f2)] 71 (0, 0)) (zK BK261) hb)
        have n4_ := am (Bb6 (by repeat (first | (with_reducible first | exact HB.out | apply Bb1 | apply Bb2 | apply Bb3 | refine Bb4 ?_ GE258.out | refine Bb4 ?_ GE261.out) | exact HB.out)) hb)
        clear HO268
        clear HO273
        clear BK258
        clear BK261
        clear HB
        have HO268 := n0_
        have HO273 := n1_
        have BK258 := n2_
        have BK261 := n3_
        have HB := n4_
        clear n0_ n1_ n2_ n3_ n4_
        (try clear hb)
        (try clear hb2)
        (try clear hk)
        (try clear hi)
        refine hK.out _ _ ⟨(kc BK258.out 0).trans rfl, (kc BK261.out 0).trans rfl, (kc BK261.out 1).trans rfl, (kc BK261.out 2).trans rfl, (pc HB.out hw265_0), (pc HB.out hw269_0), (pc HB.out hw270_0), (pc HB.out hw270_1), (pc HB.out hw270_2)⟩ (fun hHeld => ?_)
        clear hK K
        refine norm_ (a' := ?_) ?_ ?_
        rotate_left
        ·show Act.put _ (some 69) _ = _
         simp only [Act.put, sa, i64_w, i32_w]
         rfl
        refine done_ (done_of HT_.out (by kernel_rfl)) ?_
        try go_wp2
        go_ret
        exact ⟨zE, by repeat (first | (with_reducible first | exact HB.out | apply Bb1 | apply Bb2 | apply Bb3 | refine Bb4 ?_ GE258.out | refine Bb4 ?_ GE261.out) | exact HB.out)⟩
       replace c37 := ef c37
       subst c37
       have H1 : (spec_l27Clear.l1 k4 l1 x5_2 (wrap64 (x7_4 + 1)) l0_0 ((rd_T71 l1 x5_2).f0) ((rd_T71 l1 x5_2).f1) ((rd_T71 l1 x5_2).f2)) = some r := by first | (rw [if_neg (show ¬ (false = true) by decide)] at H; exact H) | rfl
       clear H
       have H := H1
       clear H1
       have H' := am H
       clear H
       try go_wp2
       have n0_ := am (Bk3 BK258.out)
       have n1_ := am (Bk3 BK261.out)
       have n2_ := am (Bb3 HB.out)
       clear BK258
       clear BK261
       clear HB
       have BK258 := n0_
       have BK261 := n1_
       have HB := n2_
       clear n0_ n1_ n2_
       have p265 : 0 ≤ (x5_2 : Int) := zD
       have q265 : x5_2 < (l0_0.length : Int) := zD
       obtain ⟨ad265, A265_0, c265_0, e265, hx265_0, hl265_0, hi265_0⟩ := at_L4 HR0_0.out x5_2 p265 q265
       have hw265_0 := hx265_0
       cases e265
       replace hx265_0 := pc HB.out hx265_0
       have HR265_0 := am hi265_0
       have HC265_0 := am hl265_0
       clear hi265_0 hl265_0
       replace p265 := eq_true p265
       replace q265 := eq_true q265
       have p269 : 0 ≤ (x7_4 : Int) := zD
       have q269 : x7_4 < (l0_0.length : Int) := zD
       obtain ⟨ad269, A269_0, c269_0, e269, hx269_0, hl269_0, hi269_0⟩ := at_L4 HR0_0.out x7_4 p269 q269
       have hw269_0 := hx269_0
       obtain rfl : ad265 = ad269 := (by injection e269)
       replace hx269_0 := pc HB.out hx269_0
       have HR269_0 := am hi269_0
       have HC269_0 := am hl269_0
       clear hi269_0 hl269_0
       replace p269 := eq_true p269
       replace q269 := eq_true q269
       have p270 : 0 ≤ (x7_4 : Int) := zD
       have q270 : x7_4 < (l1.length : Int) := zD
       obtain ⟨ad270, e270, hx270_0, hx270_1, hx270_2⟩ := at_T71 HR1.out x7_4 p270 q270
       have hw270_2 := hx270_2
       have hw270_1 := hx270_1
       have hw270_0 := hx270_0
       obtain rfl : ad260 = ad270 := (by injection e270)
       replace hx270_0 := pc HB.out hx270_0
       replace hx270_1 := pc HB.out hx270_1
       replace hx270_2 := pc HB.out hx270_2
       replace p270 := eq_true p270
       replace q270 := eq_true q270
       refine start_ (n := 18) (S := fun w' => w'.cell? ⟨gb258, 0, none⟩ = some (.slice (some ad265) l0_0.length c0_0) ∧ w'.cell? ⟨gb261, 0, none⟩ = some (.int .i64 ((rd_T71 l1 x5_2).f0)) ∧ w'.cell? ⟨gb261, 1, none⟩ = some (.int .i64 ((rd_T71 l1 x5_2).f1)) ∧ w'.cell? ⟨gb261, 2, none⟩ = some (.int .i64 ((rd_T71 l1 x5_2).f2)) ∧ w'.cell? (ad265.add (x5_2).toNat) = some (.slice A265_0 (rd_L4 l0_0 x5_2).length c265_0) ∧ w'.cell? (ad265.add (x7_4).toNat) = some (.slice A269_0 (rd_L4 l0_0 x7_4).length c269_0) ∧ w'.cell? (ad260.add ((x7_4).toNat * 3)) = some (.int .i64 ((rd_T71 l1 x7_4).f0)) ∧ w'.cell? ⟨(ad260.add ((x7_4).toNat * 3)).block, (ad260.add ((x7_4).toNat * 3)).off + 1, none⟩ = some (.int .i64 ((rd_T71 l1 x7_4).f1)) ∧ w'.cell? ⟨(ad260.add ((x7_4).toNat * 3)).block, (ad260.add ((x7_4).toNat * 3)).off + 2, none⟩ = some (.int .i64 ((rd_T71 l1 x7_4).f2))) (ds := []) spec_l27Clear.m0 (by kernel_rfl) rfl rfl ⟨(kc BK258.out 0).trans rfl, (kc BK261.out 0).trans rfl, (kc BK261.out 1).trans rfl, (kc BK261.out 2).trans rfl, (pc HB.out hw265_0), (pc HB.out hw269_0), (pc HB.out hw270_0), (pc HB.out hw270_1), (pc HB.out hw270_2)⟩ (fun hHeld => ?_); refine with_tabW spec_l27Clear.tab12 spec_l27Clear.bits12 (fun HT_ HW_ => ?_)
       generalize wr.drew = w44 at BK258 BK261 HB HR265_0 HR269_0 hx265_0 hx269_0 hx270_0 hx270_1 hx270_2 hHeld ⊢
       refine pure_ (i := 0) (N := some 52) (v := ?_) (a' := ?_) spec_l27Clear.m1 rfl rfl zA (fun _ _ _ h => h) (Or.inl ⟨by rfl, ?_⟩) ?_ ?_
       rotate_left
       ·intro w'
        go_simp
        with_reducible rfl
       rotate_left
       ·exact zP
       refine pure_ (i := 2) (N := some 54) (v := ?_) (a' := ?_) spec_l27Clear.m2 rfl rfl zA (fun _ _ _ h => h) (Or.inl ⟨by rfl, ?_⟩) ?_ ?_
       rotate_left
       ·intro w'
        go_simp
        with_reducible rfl
       rotate_left
       ·exact zP
       refine pure_ (i := 7) (N := some 59) (v := ?_) (a' := ?_) spec_l27Clear.m3 rfl rfl zA (fun _ _ _ h => h) (Or.inl ⟨by rfl, ?_⟩) ?_ ?_
       rotate_left
       ·intro w'
        go_simp
        with_reducible rfl
       rotate_left
       ·exact zP
       refine pure_ (i := 9) (N := some 61) (v := ?_) (a' := ?_) spec_l27Clear.m4 rfl rfl zA (fun _ _ _ h => h) (Or.inl ⟨by rfl, ?_⟩) ?_ ?_
       rotate_left
       ·intro w'
        go_simp
        with_reducible rfl
       rotate_left
       ·exact zP
       refine pure_ (i := 12) (N := some 64) (v := ?_) (a' := ?_) spec_l27Clear.m5 rfl rfl zA (fun _ _ _ h => h) (Or.inl ⟨by rfl, ?_⟩) ?_ ?_
       rotate_left
       ·intro w'
        go_simp
        with_reducible rfl
       rotate_left
       ·exact zP
       refine pure_ (i := 13) (N := some 65) (v := ?_) (a' := ?_) spec_l27Clear.m6 rfl rfl zA (fun _ _ _ h => h) (Or.inl ⟨by rfl, ?_⟩) ?_ ?_
       rotate_left
       ·intro w'
        go_simp
        with_reducible rfl
       rotate_left
       ·exact zP
       refine pure_ (i := 14) (N := some 66) (v := ?_) (a' := ?_) spec_l27Clear.m7 rfl rfl zA (fun _ _ _ h => h) (Or.inl ⟨by rfl, ?_⟩) ?_ ?_
       rotate_left
       ·intro w'
        go_simp
        with_reducible rfl
       rotate_left
       ·exact zP
       refine take_ (i := 1) (N := some 53) (v := ?_) (a' := ?_) spec_l27Clear.m8 rfl rfl (take_ofW HT_.out HW_.out (by kernel_rfl)) (fun _ _ _ h => h) (Or.inl ⟨by rfl, ?_⟩) hHeld ?_ ?_
       rotate_left
       ·rintro w' ⟨s0, s1, s2, s3, s4, s5, s6, s7, s8⟩
        go_simp
        with_reducible rfl
       rotate_left
       ·exact zP
       refine pure_ (i := 3) (N := some 55) (v := ?_) (a' := ?_) spec_l27Clear.m9 rfl rfl zA (fun _ _ _ h => h) (Or.inl ⟨by rfl, ?_⟩) ?_ ?_
       rotate_left
       ·intro w'
        go_simp
        with_reducible rfl
       rotate_left
       ·exact zP
       refine take_ (i := 4) (N := some 56) (v := ?_) (a' := ?_) spec_l27Clear.m10 rfl rfl (take_ofW HT_.out HW_.out (by kernel_rfl)) (fun _ _ _ h => h) (Or.inl ⟨by rfl, ?_⟩) hHeld ?_ ?_
       rotate_left
       ·rintro w' ⟨s0, s1, s2, s3, s4, s5, s6, s7, s8⟩
        go_simp
        with_reducible rfl
       rotate_left
       ·exact zP
       refine take_ (i := 5) (N := some 57) (v := ?_) (a' := ?_) spec_l27Clear.m11 rfl rfl (take_ofW HT_.out HW_.out (by kernel_rfl)) (fun _ _ _ h => h) (Or.inl ⟨by rfl, ?_⟩) hHeld ?_ ?_
       rotate_left
       ·rintro w' ⟨s0, s1, s2, s3, s4, s5, s6, s7, s8⟩
        go_simp
        with_reducible rfl
       rotate_left
       ·exact zP
       refine take_ (i := 8) (N := some 60) (v := ?_) (a' := ?_) spec_l27Clear.m12 rfl rfl (take_ofW HT_.out HW_.out (by kernel_rfl)) (fun _ _ _ h => h) (Or.inl ⟨by rfl, ?_⟩) hHeld ?_ ?_
       rotate_left
       ·rintro w' ⟨s0, s1, s2, s3, s4, s5, s6, s7, s8⟩
        go_simp
        with_reducible rfl
       rotate_left
       ·exact zP
       refine pure_ (i := 10) (N := some 62) (v := ?_) (a' := ?_) spec_l27Clear.m13 rfl rfl zA (fun _ _ _ h => h) (Or.inl ⟨by rfl, ?_⟩) ?_ ?_
       rotate_left
       ·intro w'
        go_simp
        with_reducible rfl
       rotate_left
       ·exact zP
       refine take_ (i := 11) (N := some 63) (v := ?_) (a' := ?_) spec_l27Clear.m14 rfl rfl (take_ofW HT_.out HW_.out (by kernel_rfl)) (fun _ _ _ h => h) (Or.inl ⟨by rfl, ?_⟩) hHeld ?_ ?_
       rotate_left
       ·rintro w' ⟨s0, s1, s2, s3, s4, s5, s6, s7, s8⟩
        go_simp
        with_reducible rfl
       rotate_left
       ·exact zP
       refine take_ (i := 15) (N := some 67) (v := ?_) (a' := ?_) spec_l27Clear.m15 rfl rfl (take_ofW HT_.out HW_.out (by kernel_rfl)) (fun _ _ _ h => h) (Or.inl ⟨by rfl, ?_⟩) hHeld ?_ ?_
       rotate_left
       ·rintro w' ⟨s0, s1, s2, s3, s4, s5, s6, s7, s8⟩
        go_simp
        with_reducible rfl
       rotate_left
       ·exact zP
       refine one_ (i := 6) (N := some 58) spec_l27Clear.m16 rfl rfl (one_of HT_.out (by kernel_rfl)) (by decide) (fun K hK => ?_)
       refine goes_ Try.func77 (by kernel_rfl) rfl #[.slice A265_0 (rd_L4 l0_0 x5_2).length c265_0, .agg #[.int .i64 ((rd_T71 l1 x5_2).f0), .int .i64 ((rd_T71 l1 x5_2).f1), .int .i64 ((rd_T71 l1 x5_2).f2)]] (by rfl) rfl rfl zL ?_
       with_reducible refine (spec_l09Move.calls k4 _ _ (rd_L4 l0_0 x5_2) ((rd_T71 l1 x5_2).f0) ((rd_T71 l1 x5_2).f1) ((rd_T71 l1 x5_2).f2) t266 _ ?side1 ?side2 A31.out).mono ?_
       (case side1 => repeat (first | exact (Kd.C_below HR265_0.out HB.out) | (with_reducible refine Kd.C_alloc ?_ _) | (with_reducible refine Kd.C_drewN ?_ _) | (with_reducible refine Kd.C_drew ?_)))
       (case side2 => exact HC265_0.out)
       rintro e w45 ⟨v267, rfl, ho0, hb⟩
       refine ⟨_, rfl, ?_⟩
       have n0_ := am (Kd.R_lower (Kd.R_newB ho0 (g := gb261) (o := .cells #[.int .i64 ((rd_T71 l1 x5_2).f0), .int .i64 ((rd_T71 l1 x5_2).f1), .int .i64 ((rd_T71 l1 x5_2).f2)] 71 (0, 0)) (zK BK261)) (Bb5 (by repeat (first | (with_reducible first | exact HB.out | apply Bb1 | apply Bb2 | apply Bb3 | refine Bb4 ?_ GE258.out | refine Bb4 ?_ GE261.out) | exact HB.out))))
       have n1_ := am (Bk4 (g := gb258) (o := .cells #[.slice (some ad265) l0_0.length c0_0] 29 (0, 0)) (zK BK258) hb)
       have n2_ := am (Bk4 (g := gb261) (o := .cells #[.int .i64 ((rd_T71 l1 x5_2).f0), .int .i64 ((rd_T71 l1 x5_2).f1), .int .i64 ((rd_T71 l1 x5_2).f2)] 71 (0, 0)) (zK BK261) hb)
       have n3_ := am (Bb6 (by repeat (first | (with_reducible first | exact HB.out | apply Bb1 | apply Bb2 | apply Bb3 | refine Bb4 ?_ GE258.out | refine Bb4 ?_ GE261.out) | exact HB.out)) hb)
       clear BK258
       clear BK261
       clear HB
       have HO268 := n0_
       have BK258 := n1_
       have BK261 := n2_
       have HB := n3_
       clear n0_ n1_ n2_ n3_
       (try clear hb)
       (try clear hb2)
       (try clear hk)
       (try clear hi)
       (try clear ho0)
       refine hK.out _ _ ⟨(kc BK258.out 0).trans rfl, (kc BK261.out 0).trans rfl, (kc BK261.out 1).trans rfl, (kc BK261.out 2).trans rfl, (pc HB.out hw265_0), (pc HB.out hw269_0), (pc HB.out hw270_0), (pc HB.out hw270_1), (pc HB.out hw270_2)⟩ (fun hHeld => ?_)
       clear hK K
       refine norm_ (a' := ?_) ?_ ?_
       rotate_left
       ·show Act.put _ (some 58) _ = _
        simp only [Act.put, sa, i64_w, i32_w]
        rfl
       refine one_ (i := 16) (N := some 68) spec_l27Clear.m17 rfl rfl (one_of HT_.out (by kernel_rfl)) (by decide) (fun K hK => ?_)
       refine goes_ Try.func77 (by kernel_rfl) rfl #[.slice A269_0 (rd_L4 l0_0 x7_4).length c269_0, .agg #[.int .i64 ((rd_T71 l1 x7_4).f0), .int .i64 ((rd_T71 l1 x7_4).f1), .int .i64 ((rd_T71 l1 x7_4).f2)]] (by rfl) rfl rfl zL ?_
       with_reducible refine (spec_l09Move.calls k4 _ _ (rd_L4 l0_0 x7_4) ((rd_T71 l1 x7_4).f0) ((rd_T71 l1 x7_4).f1) ((rd_T71 l1 x7_4).f2) t271 _ ?side1 ?side2 A35.out).mono ?_
       (case side1 => repeat (first | exact (Kd.C_below HR269_0.out HB.out) | (with_reducible refine Kd.C_alloc ?_ _) | (with_reducible refine Kd.C_drewN ?_ _) | (with_reducible refine Kd.C_drew ?_)))
       (case side2 => exact HC269_0.out)
       rintro e w46 ⟨v272, rfl, ho0, hb⟩
       refine ⟨_, rfl, ?_⟩
       have n0_ := am (Kd.R_elder' (zR HO268) (Kd.R_base ho0) hb)
       have n1_ := am (Kd.R_lower (Kd.R_newB (Kd.R_new' ho0 (Kd.R_lt (zR HO268))) (g := gb261) (o := .cells #[.int .i64 ((rd_T71 l1 x5_2).f0), .int .i64 ((rd_T71 l1 x5_2).f1), .int .i64 ((rd_T71 l1 x5_2).f2)] 71 (0, 0)) (zK BK261)) (Bb5 (by repeat (first | (with_reducible first | exact HB.out | apply Bb1 | apply Bb2 | apply Bb3 | refine Bb4 ?_ GE258.out | refine Bb4 ?_ GE261.out) | exact HB.out))))
       have n2_ := am (Bk4 (g := gb258) (o := .cells #[.slice (some ad265) l0_0.length c0_0] 29 (0, 0)) (zK BK258) hb)
       have n3_ := am (Bk4 (g := gb261) (o := .cells #[.int .i64 ((rd_T71 l1 x5_2).f0), .int .i64 ((rd_T71 l1 x5_2).f1), .int .i64 ((rd_T71 l1 x5_2).f2)] 71 (0, 0)) (zK BK261) hb)
       have n4_ := am (Bb6 (by repeat (first | (with_reducible first | exact HB.out | apply Bb1 | apply Bb2 | apply Bb3 | refine Bb4 ?_ GE258.out | refine Bb4 ?_ GE261.out) | exact HB.out)) hb)
       clear HO268
       clear BK258
       clear BK261
       clear HB
       have HO268 := n0_
       have HO273 := n1_
       have BK258 := n2_
       have BK261 := n3_
       have HB := n4_
       clear n0_ n1_ n2_ n3_ n4_
       (try clear hb)
       (try clear hb2)
       (try clear hk)
       (try clear hi)
       (try clear ho0)
       obtain ⟨Ao47, co47, eo47⟩ := Kd.R_slice HO268.out
       (first | subst eo47 | (injection eo47 with f1_ f2_ f3_; have f4_ := f1_.symm; have f5_ := f3_.symm; clear f1_ f2_ f3_; subst f4_; subst f5_))
       obtain ⟨Ao48, co48, eo48⟩ := Kd.R_slice HO273.out
       (first | subst eo48 | (injection eo48 with f1_ f2_ f3_; have f4_ := f1_.symm; have f5_ := f3_.symm; clear f1_ f2_ f3_; subst f4_; subst f5_))
       refine hK.out _ _ ⟨(kc BK258.out 0).trans rfl, (kc BK261.out 0).trans rfl, (kc BK261.out 1).trans rfl, (kc BK261.out 2).trans rfl, (pc HB.out hw265_0), (pc HB.out hw269_0), (pc HB.out hw270_0), (pc HB.out hw270_1), (pc HB.out hw270_2)⟩ (fun hHeld => ?_)
       clear hK K
       refine norm_ (a' := ?_) ?_ ?_
       rotate_left
       ·show Act.put _ (some 68) _ = _
        simp only [Act.put, sa, i64_w, i32_w]
        rfl
       refine one_ (i := 17) (N := some 69) spec_l27Clear.m18 rfl rfl (one_of HT_.out (by kernel_rfl)) (by decide) (fun K hK => ?_)
       refine goes_ Try.func57 (by kernel_rfl) rfl #[.slice Ao47 t266.length co47, .slice Ao48 t271.length co48] (by rfl) rfl rfl zL ?_
       with_reducible refine (spec_l27Meet.calls k4 _ _ t266 _ _ t271 false _ ?side1 ?side2 ?side3 ?side4 A36.out).mono ?_
       (case side1 => repeat (first | exact (Kd.R_reads' HO268.out).2.2 | (with_reducible refine Kd.C_alloc ?_ _) | (with_reducible refine Kd.C_drewN ?_ _) | (with_reducible refine Kd.C_drew ?_)))
       (case side2 => exact (Kd.R_reads' HO268.out).2.1)
       (case side3 => repeat (first | exact (Kd.R_reads' HO273.out).2.2 | (with_reducible refine Kd.C_alloc ?_ _) | (with_reducible refine Kd.C_drewN ?_ _) | (with_reducible refine Kd.C_drew ?_)))
       (case side4 => exact (Kd.R_reads' HO273.out).2.1)
       rintro e w49 ⟨rfl, hb⟩
       refine ⟨_, rfl, ?_⟩
       have n0_ := am (Kd.R_below (zR HO268) hb)
       have n1_ := am (Kd.R_below (zR HO273) hb)
       have n2_ := am (Bk4 (g := gb258) (o := .cells #[.slice (some ad265) l0_0.length c0_0] 29 (0, 0)) (zK BK258) hb)
       have n3_ := am (Bk4 (g := gb261) (o := .cells #[.int .i64 ((rd_T71 l1 x5_2).f0), .int .i64 ((rd_T71 l1 x5_2).f1), .int .i64 ((rd_T71 l1 x5_2).f2)] 71 (0, 0)) (zK BK261) hb)
       have n4_ := am (Bb6 (by repeat (first | (with_reducible first | exact HB.out | apply Bb1 | apply Bb2 | apply Bb3 | refine Bb4 ?_ GE258.out | refine Bb4 ?_ GE261.out) | exact HB.out)) hb)
       clear HO268
       clear HO273
       clear BK258
       clear BK261
       clear HB
       have HO268 := n0_
       have HO273 := n1_
       have BK258 := n2_
       have BK261 := n3_
       have HB := n4_
       clear n0_ n1_ n2_ n3_ n4_
       (try clear hb)
       (try clear hb2)
       (try clear hk)
       (try clear hi)
       refine hK.out _ _ ⟨(kc BK258.out 0).trans rfl, (kc BK261.out 0).trans rfl, (kc BK261.out 1).trans rfl, (kc BK261.out 2).trans rfl, (pc HB.out hw265_0), (pc HB.out hw269_0), (pc HB.out hw270_0), (pc HB.out hw270_1), (pc HB.out hw270_2)⟩ (fun hHeld => ?_)
       clear hK K
       refine norm_ (a' := ?_) ?_ ?_
       rotate_left
       ·show Act.put _ (some 69) _ = _
        simp only [Act.put, sa, i64_w, i32_w]
        rfl
       refine done_ (done_of HT_.out (by kernel_rfl)) ?_
       try go_wp2
       go_roundg k4
       case measure => have := HJ2.out; have := HK2.out; have := HJ11.out; have := HK4.out; omega
       case rel => exact ⟨(wrap64 (x7_4 + 1)), zS, H', ⟨by have := HJ2.out; have := HK2.out; have := HJ11.out; have := HK4.out; omega⟩, ⟨zK BK258⟩, ⟨zK BK261⟩, ⟨by repeat (first | (with_reducible first | exact HB.out | apply Bb1 | apply Bb2 | apply Bb3 | refine Bb4 ?_ GE258.out | refine Bb4 ?_ GE261.out) | exact HB.out)⟩⟩

end Go.Proofs.Ytjgnlakgojookaa.Q
