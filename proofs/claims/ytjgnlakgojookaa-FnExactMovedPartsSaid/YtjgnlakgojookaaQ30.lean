/- Written by a program of this session (wip/tools/pp.py) out of the translation, with the kit's printer. -/
import Derived.Test.YtjgnlakgojookaaQ0
import Derived.Test.YtjgnlakgojookaaQ20
import Derived.Test.YtjgnlakgojookaaQ28
namespace Go.Proofs.Ytjgnlakgojookaa.Q
open Go.RowKit Go.Proofs.YtjgnlakgojookaaW.PrintWords Go.Proofs.YtjgnlakgojookaaW.PrintLast Go.Proofs.YtjgnlakgojookaaW.PrintMore
attribute [local go_sem] max2_int min2_int max_two min_two max_three min_three max_four min_four
set_option linter.unusedVariables false
set_option linter.unusedSimpArgs false

/-! ### spec_MovedParts: function 27 -/
def spec_MovedParts.l0 : Nat → List (S71) → List (List (S71)) → Int → List (List (S71)) → Option ((List (List (S71))) × Int)
 | 0, _, _, _, _ => none
 | k + 1, x1, x7, x8, x396000 => if x8 < (x1.length : Int) then (if 0 ≤ x8 then (if x8 < (x396000.length : Int) then ((spec_l09Move.f k (rd_L4 x396000 x8) ((rd_T71 x1 x8).f0) ((rd_T71 x1 x8).f1) ((rd_T71 x1 x8).f2)).bind fun t402 => (if x7.length < 5864062014805 then (spec_MovedParts.l0 k x1 (x7 ++ [t402]) (wrap64 (x8 + 1)) x396000) else (none))) else (none)) else (none)) else (some (x7, 0))
def spec_MovedParts.f (k : Nat) (l0_0 : List (List (S71))) (l1 : List (S71)) : Option ((List (List (S71))) × Int) := (spec_l27Code.f k l0_0 l1).bind fun t396 => (if t396 = 0 then (spec_MovedParts.l0 k l1 (([] : List (List (S71)))) 0 l0_0) else (some (([] : List (List (S71))), t396)))
theorem spec_MovedParts.mono_l : ∀ k, (∀ y0 y1 y2 y3, LeO (spec_MovedParts.l0 k y0 y1 y2 y3) (spec_MovedParts.l0 (k + 1) y0 y1 y2 y3))
 | 0 => fun _ _ _ _ r h => by simp [spec_MovedParts.l0] at h
 | k + 1 => by
  have ih0 := spec_MovedParts.mono_l k
  ·intro y0 y1 y2 y3
   unfold spec_MovedParts.l0
   repeat' first
   | (with_reducible exact ih0 _ _ _ _)
   | (with_reducible exact spec_l09Move.mono _ _ _ _ _)
   | (with_reducible exact spec_l27Code.mono _ _ _)
   | (with_reducible exact LeO.refl _)
   | (with_reducible exact LeO.none _)
   | (with_reducible refine LeO.ite ?_ ?_)
   | (with_reducible refine LeO.bind ?_ (fun _ => ?_))
   | exact ih0 _ _ _ _
   | exact spec_l09Move.mono _ _ _ _ _
   | exact spec_l27Code.mono _ _ _
   | exact LeO.none _
   | refine LeO.ite ?_ ?_
   | refine LeO.bind ?_ (fun _ => ?_)
theorem spec_MovedParts.mono : ∀ a0 a1 k, LeO (spec_MovedParts.f k a0 a1) (spec_MovedParts.f (k + 1) a0 a1) := by
 intro a0 a1 k
 have ih0 := spec_MovedParts.mono_l k
 unfold spec_MovedParts.f
 repeat' first
   | (with_reducible exact ih0 _ _ _ _)
   | (with_reducible exact spec_l09Move.mono _ _ _ _ _)
   | (with_reducible exact spec_l27Code.mono _ _ _)
   | (with_reducible exact LeO.refl _)
   | (with_reducible exact LeO.none _)
   | (with_reducible refine LeO.ite ?_ ?_)
   | (with_reducible refine LeO.bind ?_ (fun _ => ?_))
   | exact ih0 _ _ _ _
   | exact spec_l09Move.mono _ _ _ _ _
   | exact spec_l27Code.mono _ _ _
   | exact LeO.none _
   | refine LeO.ite ?_ ?_
   | refine LeO.bind ?_ (fun _ => ?_)
def spec_MovedParts.T8 : Bool × List (List Nat × List Nat) := (true, [([], []), ([], []), ([1], [1]), ([], []), ([2, 3], [2, 3]), ([4], [4]), ([], []), ([], []), ([6, 7], [6, 7]), ([8], [8]), ([5, 9], [5, 9]), ([10], [10]), ([0, 11, 10], [0, 11]), ([12, 12, 0, 1, 2, 3, 4, 5, 6, 7, 8, 9, 10, 11, 12], [0, 12])])
def spec_MovedParts.B8 : List Nat := [0, 0, 2, 0, 14, 30, 0, 0, 192, 448, 1022, 2046, 4095, 8191]
theorem spec_MovedParts.tab8 : rtab .any (opsOf Try.f27 8) = spec_MovedParts.T8 := by kernel_rfl
theorem spec_MovedParts.bits8 : waitsOk spec_MovedParts.T8.2 spec_MovedParts.B8 = true := by kernel_rfl
set_option maxHeartbeats 8000000 in
set_option maxRecDepth 100000 in
theorem spec_MovedParts.calls (k : Nat) (A0_0 : Option Addr) (c0_0 : Nat) (l0_0 : List (List (S71))) (A1 : Option Addr) (c1 : Nat) (l1 : List (S71)) (r1 : List (List (S71))) (r2 : Int) (w : World) (hr0_0 : Kd.C (Kd.slice 71 k71) w A0_0 l0_0.length l0_0) (hc0_0 : l0_0.length ≤ c0_0) (hr1 : Kd.C k71 w A1 l1.length l1) (hc1 : l1.length ≤ c1) (h : spec_MovedParts.f k l0_0 l1 = some (r1, r2)) :
  Calls Try.prog 27 #[.agg #[.slice A0_0 l0_0.length c0_0], .slice A1 l1.length c1] w fun e w' => ∃ v0_ : Value, e = .returned (.tuple #[v0_, .int .i64 r2]) ∧ Kd.S (Kd.slice 71 k71) 36 w' w.heap.size (fun _ => True) v0_ r1 ∧ Below w.heap.size w w' := by
 have hu29 := Try.underlying29
 have hu71 := Try.underlying71
 have HR0_0 := am hr0_0
 have HC0_0 := am hc0_0
 clear hr0_0 hc0_0
 have HR1 := am hr1
 have HC1 := am hc1
 clear hr1 hc1
 have HB := am (Below.refl w.heap.size w)
 have H : ((spec_l27Code.f k l0_0 l1).bind fun t396 => (if t396 = 0 then (spec_MovedParts.l0 k l1 (([] : List (List (S71)))) 0 l0_0) else (some (([] : List (List (S71))), t396)))) = some (r1, r2) := h
 clear h
 replace H := ob H
 obtain ⟨t396, A30, H⟩ := H
 (try dsimp only at H)
 have A3 := am A30
 clear A30
 by_cases c4 : t396 = 0
 rotate_left
 ·rw [if_neg c4] at H
  have c4b0 : (t396 == 0) = false := beq_eq_false_iff_ne.mpr c4
  have c4b1 : (t396 != 0) = true := bne_iff_ne.mpr c4
  simp only [Option.some.injEq, Prod.mk.injEq] at H
  obtain ⟨rfl, rfl⟩ := H
  go_enter Try.func27, Try.ntmps27
  go_wp2_with (first | ((with_reducible refine gate_dst (N := 2) rfl ?_); refine box_event ?hg (N := 2) ?hd (cs := #[.slice A0_0 l0_0.length c0_0]) (t := 29) ?hr ?_; (case hd => rfl); (case hg => rfl); (case hr => first | (go_simp; done) | (go_simp; rfl)); intro gb395 hg w19 hbox hb; have n0_ := am (Bb6 zB hb); have n1_ := am (hbox); have n2_ := am ((by rw [hg]; exact (Bb5 zB) : w.heap.size ≤ gb395)); have n3_ := n2_; clear HB; have HB := n0_; have BK395 := n1_; have GW395 := n2_; have GE395 := n3_; clear n0_ n1_ n2_ n3_; clear hb hbox hg; have hcz20_0 : w19.cell? ⟨gb395, 0, none⟩ = some (.slice A0_0 l0_0.length c0_0) := (kc BK395.out 0).trans rfl; have hfz20_0 := kf BK395.out 0) | ((with_reducible refine gate_callee (f := 72) rfl ?_); refine goesL_ (some 11) rfl rfl Try.func72 (by kernel_rfl) rfl #[.agg #[.slice A0_0 l0_0.length c0_0], .slice A1 l1.length c1] rfl zL ?_; (with_reducible refine (spec_l27Code.calls k _ _ l0_0 _ _ l1 t396 _ ?side1 ?side2 ?side3 ?side4 A3.out).mono ?_); (case side1 => repeat (first | exact (Kd.C_below HR0_0.out HB.out) | (with_reducible refine Kd.C_alloc ?_ _) | (with_reducible refine Kd.C_drewN ?_ _) | (with_reducible refine Kd.C_drew ?_))); (case side2 => exact HC0_0.out); (case side3 => repeat (first | exact (Kd.C_below HR1.out HB.out) | (with_reducible refine Kd.C_alloc ?_ _) | (with_reducible refine Kd.C_drewN ?_ _) | (with_reducible refine Kd.C_drew ?_))); (case side4 => exact HC1.out); rintro e w21 ⟨rfl, hb⟩; refine ⟨_, rfl, ?_⟩; have n0_ := am (Bk4 (g := gb395) (o := .cells #[.slice A0_0 l0_0.length c0_0] 29 (0, 0)) (zK BK395) hb); have n1_ := am (Bb6 (by repeat (first | (with_reducible first | exact HB.out | apply Bb1 | apply Bb2 | apply Bb3 | refine Bb4 ?_ GE395.out) | exact HB.out)) hb); clear BK395; clear HB; have BK395 := n0_; have HB := n1_; clear n0_ n1_; (try clear hb); (try clear hb2); (try clear hk); (try clear hi)))
  go_ret2
  exact ⟨_, zE, by first | exact Kd.S_nil _ _ _ _ _ | exact Kd.N_nil _ _ _ _ _ | exact Kd.V_nil _ _ _ _ _ | exact Kd.Q_nil _ _ _ _ _ | exact Kd.R_nil _ _ _ _ _, by repeat (first | (with_reducible first | exact HB.out | apply Bb1 | apply Bb2 | apply Bb3 | refine Bb4 ?_ GE395.out) | exact HB.out)⟩
 rw [if_pos c4] at H
 have c4b0 : (t396 == 0) = true := beq_iff_eq.mpr c4
 have c4b1 : (t396 != 0) = false := bne_eq_false_iff_eq.mpr c4
 clear c4
 obtain ⟨y397, hy397⟩ : ∃ y_ : List (List (S71)), y_ = (([] : List (List (S71)))) := ⟨_, rfl⟩
 replace H : (spec_MovedParts.l0 k l1 y397 0 l0_0) = some (r1, r2) := by first | (rw [hy397]; with_reducible exact H) | (have H2_ := (Option.bind_some _ _).symm.trans H; rw [hy397]; with_reducible exact H2_) | (have H2_ := (Option.bind_some _ _).symm.trans H; with_reducible exact H2_) | with_reducible exact H | (rw [hy397]; exact H) | exact H
 have Ny397 := am hy397
 clear hy397
 have H' := am H
 clear H
 go_enter Try.func27, Try.ntmps27
 go_wp2_with (first | ((with_reducible refine gate_dst (N := 2) rfl ?_); refine box_event ?hg (N := 2) ?hd (cs := #[.slice A0_0 l0_0.length c0_0]) (t := 29) ?hr ?_; (case hd => rfl); (case hg => rfl); (case hr => first | (go_simp; done) | (go_simp; rfl)); intro gb395 hg w5 hbox hb; have n0_ := am (Bb6 zB hb); have n1_ := am (hbox); have n2_ := am ((by rw [hg]; exact (Bb5 zB) : w.heap.size ≤ gb395)); have n3_ := n2_; clear HB; have HB := n0_; have BK395 := n1_; have GW395 := n2_; have GE395 := n3_; clear n0_ n1_ n2_ n3_; clear hb hbox hg; have hcz6_0 : w5.cell? ⟨gb395, 0, none⟩ = some (.slice A0_0 l0_0.length c0_0) := (kc BK395.out 0).trans rfl; have hfz6_0 := kf BK395.out 0) | ((with_reducible refine gate_callee (f := 72) rfl ?_); refine goesL_ (some 11) rfl rfl Try.func72 (by kernel_rfl) rfl #[.agg #[.slice A0_0 l0_0.length c0_0], .slice A1 l1.length c1] rfl zL ?_; (with_reducible refine (spec_l27Code.calls k _ _ l0_0 _ _ l1 t396 _ ?side1 ?side2 ?side3 ?side4 A3.out).mono ?_); (case side1 => repeat (first | exact (Kd.C_below HR0_0.out HB.out) | (with_reducible refine Kd.C_alloc ?_ _) | (with_reducible refine Kd.C_drewN ?_ _) | (with_reducible refine Kd.C_drew ?_))); (case side2 => exact HC0_0.out); (case side3 => repeat (first | exact (Kd.C_below HR1.out HB.out) | (with_reducible refine Kd.C_alloc ?_ _) | (with_reducible refine Kd.C_drewN ?_ _) | (with_reducible refine Kd.C_drew ?_))); (case side4 => exact HC1.out); rintro e w7 ⟨rfl, hb⟩; refine ⟨_, rfl, ?_⟩; have n0_ := am (Bk4 (g := gb395) (o := .cells #[.slice A0_0 l0_0.length c0_0] 29 (0, 0)) (zK BK395) hb); have n1_ := am (Bb6 (by repeat (first | (with_reducible first | exact HB.out | apply Bb1 | apply Bb2 | apply Bb3 | refine Bb4 ?_ GE395.out) | exact HB.out)) hb); clear BK395; clear HB; have BK395 := n0_; have HB := n1_; clear n0_ n1_; (try clear hb); (try clear hb2); (try clear hk); (try clear hi)) | ((with_reducible refine gate_dst (N := 15) rfl ?_); refine Kd.S_lit (Kd.slice 71 k71) _ 36 ?hg (N := 15) ?hd (xs := ([] : List (List (S71)))) (inner := []) (ok := fun _ => True) (okp := fun _ => True) ?hr ?hp (fun _ hk => hk) trivial (Below.refl _ _) (Nat.le_refl _) (by simp) ?_; (case hd => rfl); (case hg => rfl); (case hr => first | (go_simp; done) | (go_simp; rfl)); (case hp => exact (Reps.none _ _)); intro v398 w8 ho9 hb hg_ hnew_; clear hg_ hnew_; (first | rw [← Ny397.out] at ho9 | (simp only [Int.reduceToNat] at ho9; rw [← Ny397.out] at ho9)); have n0_ := am (Kd.S_lower ho9 (Bb5 (by repeat (first | (with_reducible first | exact HB.out | apply Bb1 | apply Bb2 | apply Bb3 | refine Bb4 ?_ GE395.out) | exact HB.out)))); have n1_ := am (Bk4 (g := gb395) (o := .cells #[.slice A0_0 l0_0.length c0_0] 29 (0, 0)) (zK BK395) hb); have n2_ := am (Bb6 (by repeat (first | (with_reducible first | exact HB.out | apply Bb1 | apply Bb2 | apply Bb3 | refine Bb4 ?_ GE395.out) | exact HB.out)) hb); clear BK395; clear HB; have HO399 := n0_; have BK395 := n1_; have HB := n2_; clear n0_ n1_ n2_; clear hb ho9))
 go_loopg [7, 8] k (fun kq v7 v8 w' => ∃ (x7_1 : List (List (S71))) (x8_1 : Int), v8 = .int .i64 x8_1 ∧ Aside0 (spec_MovedParts.l0 kq l1 x7_1 x8_1 l0_0 = some (r1, r2)) ∧ Aside0 (kq ≤ k) ∧ Aside0 (Kd.S (Kd.slice 71 k71) 36 w' w.heap.size (fun _ => True) v7 x7_1) ∧ Aside0 (w'.heap[gb395]? = some (.cells #[(.slice A0_0 l0_0.length c0_0)] 29 (0, 0))) ∧ Aside0 (Below w.heap.size w w'))
 case atStart => exact ⟨(y397), (0), zS, H', ⟨Nat.le_refl _⟩, ⟨by (with_reducible repeat (first | apply Kd.S_alloc | apply Kd.S_drewN | apply Kd.S_drew)); exact HO399.out⟩, ⟨zK BK395⟩, ⟨by repeat (first | (with_reducible first | exact HB.out | apply Bb1 | apply Bb2 | apply Bb3 | refine Bb4 ?_ GE395.out) | exact HB.out)⟩⟩
 case round =>
  clear H'
  try clear c1
  try clear c2
  try clear p2
  try clear c4
  try clear c4b0
  try clear c4b1
  try clear c7
  try clear hcz6_0
  try clear hfz6_0
  obtain ⟨x7_1, x8_1, rfl, HA, HK1, HO_7, BK395, HB⟩ := hrel
  cases gk with
  | zero => exact absurd HA.out (by simp [spec_MovedParts.l0])
  | succ k1 =>
   have H := HA.out
   clear HA
   simp only [spec_MovedParts.l0] at H
   by_cases c10 : x8_1 < (l1.length : Int)
   rotate_left
   ·rw [if_neg c10] at H
    have c10b0 : decide (x8_1 < (l1.length : Int)) = false := decide_eq_false c10
    clear c10
    simp only [Option.some.injEq, Prod.mk.injEq] at H
    obtain ⟨rfl, rfl⟩ := H
    go_wp2
    go_ret2
    exact ⟨_, zE, by (with_reducible repeat (first | apply Kd.S_alloc | apply Kd.S_drewN | apply Kd.S_drew)); exact HO_7.out, by repeat (first | (with_reducible first | exact HB.out | apply Bb1 | apply Bb2 | apply Bb3 | refine Bb4 ?_ GE395.out) | exact HB.out)⟩
   rw [if_pos c10] at H
   have c10b0 : decide (x8_1 < (l1.length : Int)) = true := decide_eq_true c10
   clear c10
   by_cases c11 : 0 ≤ x8_1
   rotate_left
   ·rw [if_neg c11] at H
    exact absurd H (by simp)
   rw [if_pos c11] at H
   have c11b0 : decide (0 ≤ x8_1) = true := decide_eq_true c11
   clear c11
   by_cases c12 : x8_1 < (l0_0.length : Int)
   rotate_left
   ·rw [if_neg c12] at H
    exact absurd H (by simp)
   rw [if_pos c12] at H
   have c12b0 : decide (x8_1 < (l0_0.length : Int)) = true := decide_eq_true c12
   clear c12
   replace H := ob H
   obtain ⟨t402, A130, H⟩ := H
   (try dsimp only at H)
   have A13 := am A130
   clear A130
   by_cases c14 : x7_1.length < 5864062014805
   rotate_left
   ·rw [if_neg c14] at H
    exact absurd H (by simp)
   rw [if_pos c14] at H
   have LMc14 := am c14
   clear c14
   obtain ⟨y405, hy405⟩ : ∃ y_ : List (List (S71)), y_ = (x7_1 ++ [t402]) := ⟨_, rfl⟩
   replace H : (spec_MovedParts.l0 k1 l1 y405 (wrap64 (x8_1 + 1)) l0_0) = some (r1, r2) := by first | (rw [hy405]; with_reducible exact H) | (have H2_ := (Option.bind_some _ _).symm.trans H; rw [hy405]; with_reducible exact H2_) | (have H2_ := (Option.bind_some _ _).symm.trans H; with_reducible exact H2_) | with_reducible exact H | (rw [hy405]; exact H) | exact H
   have Ny405 := am hy405
   clear hy405
   have H' := am H
   clear H
   try go_wp2
   have n0_ := am (Kd.S_drew HO_7.out)
   have n1_ := am (Bk3 BK395.out)
   have n2_ := am (Bb3 HB.out)
   clear HO_7
   clear BK395
   clear HB
   have HO_7 := n0_
   have BK395 := n1_
   have HB := n2_
   clear n0_ n1_ n2_
   have p400 : 0 ≤ (x8_1 : Int) := zD
   have q400 : x8_1 < (l0_0.length : Int) := zD
   obtain ⟨ad400, A400_0, c400_0, e400, hx400_0, hl400_0, hi400_0⟩ := at_L4 HR0_0.out x8_1 p400 q400
   have hw400_0 := hx400_0
   cases e400
   replace hx400_0 := pc HB.out hx400_0
   have HR400_0 := am hi400_0
   have HC400_0 := am hl400_0
   clear hi400_0 hl400_0
   replace p400 := eq_true p400
   replace q400 := eq_true q400
   have p401 : 0 ≤ (x8_1 : Int) := zD
   have q401 : x8_1 < (l1.length : Int) := zD
   obtain ⟨ad401, e401, hx401_0, hx401_1, hx401_2⟩ := at_T71 HR1.out x8_1 p401 q401
   have hw401_2 := hx401_2
   have hw401_1 := hx401_1
   have hw401_0 := hx401_0
   cases e401
   replace hx401_0 := pc HB.out hx401_0
   replace hx401_1 := pc HB.out hx401_1
   replace hx401_2 := pc HB.out hx401_2
   replace p401 := eq_true p401
   replace q401 := eq_true q401
   refine start_ (n := 14) (S := fun w' => w'.cell? ⟨gb395, 0, none⟩ = some (.slice (some ad400) l0_0.length c0_0) ∧ w'.cell? (ad400.add (x8_1).toNat) = some (.slice A400_0 (rd_L4 l0_0 x8_1).length c400_0) ∧ w'.cell? (ad401.add ((x8_1).toNat * 3)) = some (.int .i64 ((rd_T71 l1 x8_1).f0)) ∧ w'.cell? ⟨(ad401.add ((x8_1).toNat * 3)).block, (ad401.add ((x8_1).toNat * 3)).off + 1, none⟩ = some (.int .i64 ((rd_T71 l1 x8_1).f1)) ∧ w'.cell? ⟨(ad401.add ((x8_1).toNat * 3)).block, (ad401.add ((x8_1).toNat * 3)).off + 2, none⟩ = some (.int .i64 ((rd_T71 l1 x8_1).f2))) (ds := []) #[z',z',z',z',z',z',z',z',z',z',z',z',z',z'] (by kernel_rfl) rfl rfl ⟨(kc BK395.out 0).trans rfl, (pc HB.out hw400_0), (pc HB.out hw401_0), (pc HB.out hw401_1), (pc HB.out hw401_2)⟩ (fun hHeld => ?_); refine with_tabW spec_MovedParts.tab8 spec_MovedParts.bits8 (fun HT_ HW_ => ?_)
   generalize wr.drew = w15 at HO_7 BK395 HB HR400_0 hx400_0 hx401_0 hx401_1 hx401_2 hHeld ⊢
   refine pure_ (i := 0) (N := some 22) (v := ?_) (a' := ?_) #[o',z',z',z',z',z',z',z',z',z',z',z',z',z'] rfl rfl zA (fun _ _ _ h => h) (Or.inl ⟨by rfl, ?_⟩) ?_ ?_
   rotate_left
   ·intro w'
    go_simp
    with_reducible rfl
   rotate_left
   ·exact zP
   refine pure_ (i := 1) (N := some 23) (v := ?_) (a' := ?_) #[o',o',z',z',z',z',z',z',z',z',z',z',z',z'] rfl rfl zA (fun _ _ _ h => h) (Or.inl ⟨by rfl, ?_⟩) ?_ ?_
   rotate_left
   ·intro w'
    go_simp
    with_reducible rfl
   rotate_left
   ·exact zP
   refine pure_ (i := 3) (N := some 25) (v := ?_) (a' := ?_) #[o',o',z',o',z',z',z',z',z',z',z',z',z',z'] rfl rfl zA (fun _ _ _ h => h) (Or.inl ⟨by rfl, ?_⟩) ?_ ?_
   rotate_left
   ·intro w'
    go_simp
    with_reducible rfl
   rotate_left
   ·exact zP
   refine pure_ (i := 6) (N := some 28) (v := ?_) (a' := ?_) #[o',o',z',o',z',z',o',z',z',z',z',z',z',z'] rfl rfl zA (fun _ _ _ h => h) (Or.inl ⟨by rfl, ?_⟩) ?_ ?_
   rotate_left
   ·intro w'
    go_simp
    with_reducible rfl
   rotate_left
   ·exact zP
   refine pure_ (i := 7) (N := some 29) (v := ?_) (a' := ?_) #[o',o',z',o',z',z',o',o',z',z',z',z',z',z'] rfl rfl zA (fun _ _ _ h => h) (Or.inl ⟨by rfl, ?_⟩) ?_ ?_
   rotate_left
   ·intro w'
    go_simp
    with_reducible rfl
   rotate_left
   ·exact zP
   refine pure_ (i := 8) (N := some 30) (v := ?_) (a' := ?_) #[o',o',z',o',z',z',o',o',o',z',z',z',z',z'] rfl rfl zA (fun _ _ _ h => h) (Or.inl ⟨by rfl, ?_⟩) ?_ ?_
   rotate_left
   ·intro w'
    go_simp
    with_reducible rfl
   rotate_left
   ·exact zP
   refine take_ (i := 2) (N := some 24) (v := ?_) (a' := ?_) #[o',o',o',o',z',z',o',o',o',z',z',z',z',z'] rfl rfl (take_ofW HT_.out HW_.out (by kernel_rfl)) (fun _ _ _ h => h) (Or.inl ⟨by rfl, ?_⟩) hHeld ?_ ?_
   rotate_left
   ·rintro w' ⟨s0, s1, s2, s3, s4⟩
    go_simp
    with_reducible rfl
   rotate_left
   ·exact zP
   refine pure_ (i := 4) (N := some 26) (v := ?_) (a' := ?_) #[o',o',o',o',o',z',o',o',o',z',z',z',z',z'] rfl rfl zA (fun _ _ _ h => h) (Or.inl ⟨by rfl, ?_⟩) ?_ ?_
   rotate_left
   ·intro w'
    go_simp
    with_reducible rfl
   rotate_left
   ·exact zP
   refine take_ (i := 5) (N := some 27) (v := ?_) (a' := ?_) #[o',o',o',o',o',o',o',o',o',z',z',z',z',z'] rfl rfl (take_ofW HT_.out HW_.out (by kernel_rfl)) (fun _ _ _ h => h) (Or.inl ⟨by rfl, ?_⟩) hHeld ?_ ?_
   rotate_left
   ·rintro w' ⟨s0, s1, s2, s3, s4⟩
    go_simp
    with_reducible rfl
   rotate_left
   ·exact zP
   refine take_ (i := 9) (N := some 31) (v := ?_) (a' := ?_) #[o',o',o',o',o',o',o',o',o',o',z',z',z',z'] rfl rfl (take_ofW HT_.out HW_.out (by kernel_rfl)) (fun _ _ _ h => h) (Or.inl ⟨by rfl, ?_⟩) hHeld ?_ ?_
   rotate_left
   ·rintro w' ⟨s0, s1, s2, s3, s4⟩
    go_simp
    with_reducible rfl
   rotate_left
   ·exact zP
   refine one_ (i := 10) (N := some 32) #[o',o',o',o',o',o',o',o',o',o',o',z',z',z'] rfl rfl (one_of HT_.out (by kernel_rfl)) (by decide) (fun K hK => ?_)
   refine goes_ Try.func77 (by kernel_rfl) rfl #[.slice A400_0 (rd_L4 l0_0 x8_1).length c400_0, .agg #[.int .i64 ((rd_T71 l1 x8_1).f0), .int .i64 ((rd_T71 l1 x8_1).f1), .int .i64 ((rd_T71 l1 x8_1).f2)]] (by rfl) rfl rfl zL ?_
   with_reducible refine (spec_l09Move.calls k1 _ _ (rd_L4 l0_0 x8_1) ((rd_T71 l1 x8_1).f0) ((rd_T71 l1 x8_1).f1) ((rd_T71 l1 x8_1).f2) t402 _ ?side1 ?side2 A13.out).mono ?_
   (case side1 => repeat (first | exact (Kd.C_below HR400_0.out HB.out) | (with_reducible refine Kd.C_alloc ?_ _) | (with_reducible refine Kd.C_drewN ?_ _) | (with_reducible refine Kd.C_drew ?_)))
   (case side2 => exact HC400_0.out)
   rintro e w16 ⟨v403, rfl, ho0, hb⟩
   refine ⟨_, rfl, ?_⟩
   have n0_ := am (Kd.S_elder' (by (with_reducible repeat (first | apply Kd.S_alloc | apply Kd.S_drewN | apply Kd.S_drew)); exact HO_7.out) (Kd.R_base ho0) hb)
   have n1_ := am (Kd.R_lower ho0 (Bb5 (by repeat (first | (with_reducible first | exact HB.out | apply Bb1 | apply Bb2 | apply Bb3 | refine Bb4 ?_ GE395.out) | exact HB.out))))
   have n2_ := am (Bk4 (g := gb395) (o := .cells #[.slice (some ad400) l0_0.length c0_0] 29 (0, 0)) (zK BK395) hb)
   have n3_ := am (Bb6 (by repeat (first | (with_reducible first | exact HB.out | apply Bb1 | apply Bb2 | apply Bb3 | refine Bb4 ?_ GE395.out) | exact HB.out)) hb)
   clear HO_7
   clear BK395
   clear HB
   have HO_7 := n0_
   have HO404 := n1_
   have BK395 := n2_
   have HB := n3_
   clear n0_ n1_ n2_ n3_
   (try clear hb)
   (try clear hb2)
   (try clear hk)
   (try clear hi)
   (try clear ho0)
   obtain ⟨Ao18, co18, eo18⟩ := Kd.R_slice HO404.out
   (first | subst eo18 | (injection eo18 with f1_ f2_ f3_; have f4_ := f1_.symm; have f5_ := f3_.symm; clear f1_ f2_ f3_; subst f4_; subst f5_))
   refine hK.out _ _ ⟨(kc BK395.out 0).trans rfl, (pc HB.out hw400_0), (pc HB.out hw401_0), (pc HB.out hw401_1), (pc HB.out hw401_2)⟩ (fun hHeld => ?_)
   clear hK K
   refine norm_ (a' := ?_) ?_ ?_
   rotate_left
   ·show Act.put _ (some 32) _ = _
    simp only [Act.put, sa, i64_w, i32_w]
    rfl
   refine one_ (i := 11) (N := some 33) #[o',o',o',o',o',o',o',o',o',o',o',o',z',z'] rfl rfl (one_of HT_.out (by kernel_rfl)) (by decide) (fun K hK => ?_)
   refine value_ (w1 := ?_) (v := ?_) (by rfl) rfl ?_ ?_
   rotate_left 2
   ·go_simp
    constructor
    ·rfl
    rfl
   refine hK.out _ _ ⟨(kc (Bk1 BK395.out _) 0).trans rfl, (World.cell?_alloc_lt _ _ _ (World.block_lt_of_cell? _ _ ((pc HB.out hw400_0)))).trans ((pc HB.out hw400_0)), (World.cell?_alloc_lt _ _ _ (World.block_lt_of_cell? _ _ ((pc HB.out hw401_0)))).trans ((pc HB.out hw401_0)), (World.cell?_alloc_lt _ _ _ (World.block_lt_of_cell? _ _ ((pc HB.out hw401_1)))).trans ((pc HB.out hw401_1)), (World.cell?_alloc_lt _ _ _ (World.block_lt_of_cell? _ _ ((pc HB.out hw401_2)))).trans ((pc HB.out hw401_2))⟩ (fun hHeld => ?_)
   clear hK K
   refine norm_ (a' := ?_) ?_ ?_
   rotate_left
   ·show Act.put _ (some 33) _ = _
    simp only [Act.put, sa, i64_w, i32_w]
    rfl
   refine one_ (i := 12) (N := some 34) #[o',o',o',o',o',o',o',o',o',o',o',o',o',z'] rfl rfl (one_of HT_.out (by kernel_rfl)) (by decide) (fun K hK => ?_)
   refine Kd.S_append_step (Kd.slice 71 k71) (w0 := w) w.heap.size (by rfl) (.tmp 22) (.tmp 33) 27 36 (.slice none 0 0) 24 rfl Try.underlying27 info36 rfl (by decide) (by omega) u7 x7_1 t402 [.slice Ao18 t402.length co18] (fun _ => True) (fun k_ => some k_ = (.slice Ao18 t402.length co18 : Value).ownBlock) rfl rfl ?aP (fun k_ hk_ => ((Kd.R_mono (ok' := fun k_ => ((fun _ => True)) k_ ∧ some k_ ≠ (u7 : Value).ownBlock) (Kd.R_apart' (HO404.out) (Kd.S_typed HO_7.out) (by decide)) (fun k_ hk => ⟨trivial, hk.2⟩))).1 k_ hk_.symm) ?aF ?aO ?aB ?aS ?aL ?_
   (case aP => exact Kd.M_row (Kd.R_mono (Kd.R_tight rfl (Kd.R_mono (ok' := fun k_ => ((fun _ => True)) k_ ∧ some k_ ≠ (u7 : Value).ownBlock) (Kd.R_apart' (HO404.out) (Kd.S_typed HO_7.out) (by decide)) (fun k_ hk => ⟨trivial, hk.2⟩))) (fun _ h_ => h_)))
   (case aB => exact (by repeat (first | (with_reducible first | exact HB.out | apply Bb1 | apply Bb2 | apply Bb3 | refine Bb4 ?_ GE395.out) | exact HB.out)))
   (case aF => exact (fun _ _ => trivial))
   (case aO => exact (by (with_reducible repeat (first | apply Kd.S_alloc | apply Kd.S_drewN | apply Kd.S_drew)); exact Kd.S_mono HO_7.out (fun k_ hk => ⟨trivial, fun e_ => hk.2 e_⟩)))
   (case aS => exact (Bb5 (by repeat (first | (with_reducible first | exact HB.out | apply Bb1 | apply Bb2 | apply Bb3 | refine Bb4 ?_ GE395.out) | exact HB.out))))
   (case aL => have := LMc14.out; omega)
   intro v406 w17 ho hb hg hat
   rw [← Ny405.out] at ho
   have n0_ := am (blk_grown (g := gb395) (o := .cells #[.slice (some ad400) l0_0.length c0_0] 29 (0, 0)) (zK BK395) hg (Kd.S_ne HO_7.out BK395.out (by decide)))
   have n1_ := am (hb)
   have n2_ := am (ho)
   clear BK395
   clear HB
   clear HO_7
   clear HO404
   have BK395 := n0_
   have HB := n1_
   have HO407 := n2_
   clear n0_ n1_ n2_
   clear ho hb hg hat
   refine hK.out _ _ ⟨(kc BK395.out 0).trans rfl, (pc HB.out hw400_0), (pc HB.out hw401_0), (pc HB.out hw401_1), (pc HB.out hw401_2)⟩ (fun hHeld => ?_)
   clear hK K
   refine norm_ (a' := ?_) ?_ ?_
   rotate_left
   ·show Act.put _ (some 34) _ = _
    simp only [Act.put, sa, i64_w, i32_w]
    rfl
   refine pure_ (i := 13) (N := some 7) (v := ?_) (a' := ?_) #[o',o',o',o',o',o',o',o',o',o',o',o',o',o'] rfl rfl zA (fun _ _ _ h => h) (Or.inl ⟨by rfl, ?_⟩) ?_ ?_
   rotate_left
   ·intro w'
    go_simp
    with_reducible rfl
   rotate_left
   ·exact zP
   refine done_ (done_of HT_.out (by kernel_rfl)) ?_
   try go_wp2
   go_roundg k1
   case measure => have := HK1.out; omega
   case rel => exact ⟨(y405), (wrap64 (x8_1 + 1)), zS, H', ⟨by have := HK1.out; omega⟩, ⟨by (with_reducible repeat (first | apply Kd.S_alloc | apply Kd.S_drewN | apply Kd.S_drew)); exact HO407.out⟩, ⟨zK BK395⟩, ⟨by repeat (first | (with_reducible first | exact HB.out | apply Bb1 | apply Bb2 | apply Bb3 | refine Bb4 ?_ GE395.out) | exact HB.out)⟩⟩

end Go.Proofs.Ytjgnlakgojookaa.Q
