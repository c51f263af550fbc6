/- Written by a program of this session (wip/tools/pp.py) out of the translation, with the kit's printer. -/
import Derived.Test.YtbbhohaenijaoaaGreatQ0
import Derived.Test.YtbbhohaenijaoaaGreatQ10
import Derived.Test.YtbbhohaenijaoaaGreatQ1
namespace Go.Proofs.YtbbhohaenijaoaaGreat.Q
open Go.RowKit Go.Proofs.YtbbhohaenijaoaaGreatW.PrintWords Go.Proofs.YtbbhohaenijaoaaGreatW.PrintLast Go.Proofs.YtbbhohaenijaoaaGreatW.PrintMore
attribute [local go_sem] max2_int min2_int max_two min_two max_three min_three max_four min_four
set_option linter.unusedVariables false
set_option linter.unusedSimpArgs false

attribute [local go_sem high] eqA44
/-! ### impl_reach: function 54 -/
def impl_reach.l0 : Nat → List (S44) → Int → Int → Int → Int → Option (Int × Int)
 | 0, _, _, _, _, _ => none
 | k + 1, x9, x10, x11, x374000, x374001 => if x11 < x10 then (if 0 ≤ x11 then (if x11 < (x9.length : Int) then (impl_reach.l0 k x9 x10 (wrap64 (x11 + 1)) (mx x374000 ((rd_T44 x9 x11).f0)) (mx x374001 ((rd_T44 x9 x11).f1))) else (none)) else (none)) else (some (x374000, x374001))
def impl_reach.f (k : Nat) (l0 : List (S44)) : Option (Int × Int) := if 0 < (l0.length : Int) then (impl_reach.l0 k l0 (l0.length : Int) 0 ((rd_T44 l0 0).f0) ((rd_T44 l0 0).f1)) else (none)
theorem impl_reach.mono_l : ∀ k, (∀ y0 y1 y2 y3 y4, LeO (impl_reach.l0 k y0 y1 y2 y3 y4) (impl_reach.l0 (k + 1) y0 y1 y2 y3 y4))
 | 0 => fun _ _ _ _ _ r h => by simp [impl_reach.l0] at h
 | k + 1 => by
  have ih0 := impl_reach.mono_l k
  ·intro y0 y1 y2 y3 y4
   unfold impl_reach.l0
   with_reducible repeat' first | exact ih0 _ _ _ _ _ | exact LeO.refl _ | exact LeO.none _ | refine LeO.ite ?_ ?_ | refine LeO.bind ?_ (fun _ => ?_)
theorem impl_reach.mono : ∀ a0 k, LeO (impl_reach.f k a0) (impl_reach.f (k + 1) a0) := by
 intro a0 k
 have ih0 := impl_reach.mono_l k
 unfold impl_reach.f
 with_reducible repeat' first | exact ih0 _ _ _ _ _ | exact LeO.refl _ | exact LeO.none _ | refine LeO.ite ?_ ?_ | refine LeO.bind ?_ (fun _ => ?_)
set_option maxHeartbeats 8000000 in
set_option maxRecDepth 100000 in
theorem impl_reach.calls (k : Nat) (A0 : Option Addr) (c0 : Nat) (l0 : List (S44)) (r1 : Int) (r2 : Int) (w : World) (hr0 : Kd.C k44 w A0 l0.length l0) (hc0 : l0.length ≤ c0) (h : impl_reach.f k l0 = some (r1, r2)) :
  Calls Tryz.prog 54 #[.slice A0 l0.length c0] w fun e w' => e = .returned (.agg #[.int .i64 r1, .int .i64 r2]) ∧ Below w.heap.size w w' := by
 have hu44 := Tryz.underlying44
 have HR0 := am hr0
 have HC0 := am hc0
 clear hr0 hc0
 have HB := am (Below.refl w.heap.size w)
 have H : (if 0 < (l0.length : Int) then (impl_reach.l0 k l0 (l0.length : Int) 0 ((rd_T44 l0 0).f0) ((rd_T44 l0 0).f1)) else (none)) = some (r1, r2) := h
 clear h
 by_cases c2 : 0 < (l0.length : Int)
 rotate_left
 ·rw [if_neg c2] at H
  exact absurd H (by simp)
 rw [if_pos c2] at H
 have c2b0 : decide (0 < (l0.length : Int)) = true := decide_eq_true c2
 have c2b1 : decide (0 < l0.length) = true := decide_eq_true (by omega)
 clear c2
 have H' := am H
 clear H
 go_enter Tryz.func54, Tryz.ntmps54
 go_wp2_with (first | ((with_reducible refine gate_dst (N := 2) rfl ?_); refine box_event ?hg (N := 2) ?hd (cs := #[.int .i64 0, .int .i64 0]) (t := 44) ?hr ?_; (case hd => rfl); (case hg => rfl); (case hr => first | (go_simp; done) | (go_simp; rfl)); intro gb371 hg w3 hbox hb; have n0_ := am (Bb6 zB hb); have n1_ := am (hbox); have n2_ := am ((by rw [hg]; exact (Bb5 zB) : w.heap.size ≤ gb371)); have n3_ := n2_; clear HB; have HB := n0_; have BK371 := n1_; have GW371 := n2_; have GE371 := n3_; clear n0_ n1_ n2_ n3_; clear hb hbox hg; have p372 : 0 ≤ (0 : Int) := (by omega); have q372 : 0 < (l0.length : Int) := zD; obtain ⟨ad372, e372, hx372_0, hx372_1⟩ := at_T44 HR0.out 0 p372 q372; cases e372; have qi372 : (0 < l0.length) = True := eq_true (by omega); (try rw [show ((0 : Int)).toNat = 0 from rfl] at hx372_0); (try rw [show 0 * 2 = 0 from rfl] at hx372_0); (try rw [Addr.add_zero'] at hx372_0); (try rw [show ((0 : Int)).toNat = 0 from rfl] at hx372_1); (try rw [show 0 * 2 = 0 from rfl] at hx372_1); (try rw [Addr.add_zero'] at hx372_1); replace hx372_0 := pc HB.out hx372_0; replace hx372_1 := pc HB.out hx372_1; replace p372 := eq_true p372; replace q372 := eq_true q372) | ((with_reducible refine gate_dst (N := 3) rfl ?_); refine box_event ?hg (N := 3) ?hd (cs := #[.int .i64 0, .int .i64 0]) (t := 44) ?hr ?_; (case hd => rfl); (case hg => rfl); (case hr => first | (go_simp; done) | (go_simp; rfl)); intro gb373 hg w4 hbox hb; have n0_ := am (Bk4 (g := gb371) (o := .cells #[.int .i64 0, .int .i64 0] 44 (0, 0)) (zK BK371) hb); have n1_ := am (Bb6 (by repeat (first | (with_reducible first | exact HB.out | apply Bb1 | apply Bb2 | apply Bb3 | refine Bb4 ?_ GE371.out) | exact HB.out)) hb); have n2_ := am (hbox); have n3_ := am ((by rw [hg]; exact (Bb5 (by repeat (first | (with_reducible first | exact HB.out | apply Bb1 | apply Bb2 | apply Bb3 | refine Bb4 ?_ GE371.out) | exact HB.out))) : w.heap.size ≤ gb373)); have n4_ := n3_; have n5_ := am ((by rw [hg]; exact nl (Bk5 (g := gb371) (o := .cells #[.int .i64 0, .int .i64 0] 44 (0, 0)) (zK BK371)) : gb371 ≠ gb373)); have n6_ := am ((by rw [hg]; exact ng (Bk5 (g := gb371) (o := .cells #[.int .i64 0, .int .i64 0] 44 (0, 0)) (zK BK371)) : gb373 ≠ gb371)); clear BK371; clear HB; have BK371 := n0_; have HB := n1_; have BK373 := n2_; have GW373 := n3_; have GE373 := n4_; have NB371_373 := n5_; have NB373_371 := n6_; clear n0_ n1_ n2_ n3_ n4_ n5_ n6_; clear hb hbox hg; have hnb5 := NB373_371.out; have hnc5 := NB371_373.out; have hcz6_0 : w4.cell? ⟨gb373, 0, none⟩ = some (.int .i64 0) := (kc BK373.out 0).trans rfl; have hcz6_1 : w4.cell? ⟨gb373, 1, none⟩ = some (.int .i64 0) := (kc BK373.out 1).trans rfl; have hfz6_0 := kf BK373.out 0; have hfz6_1 := kf BK373.out 1))
 go_loopg [11] k (fun kq v11 w' => ∃ (x11_1 : Int) (x374000_1 : Int) (x374001_1 : Int), v11 = .int .i64 x11_1 ∧ Aside0 (impl_reach.l0 kq l0 (l0.length : Int) x11_1 x374000_1 x374001_1 = some (r1, r2)) ∧ Aside0 (kq ≤ k) ∧ Aside0 (w'.heap[gb371]? = some (.cells #[.int .i64 0, .int .i64 0] 44 (0, 0))) ∧ Aside0 (w'.heap[gb373]? = some (.cells #[.int .i64 x374000_1, .int .i64 x374001_1] 44 (0, 0))) ∧ Aside0 (Below w.heap.size w w'))
 case atStart => exact ⟨(0), ((rd_T44 l0 0).f0), ((rd_T44 l0 0).f1), zS, H', ⟨Nat.le_refl _⟩, ⟨by (with_reducible repeat (first | refine Bk2 ?_ _ | refine Bk3 ?_ | refine Bk1 ?_ _)); refine blk_far ?_ NB371_373.out _; (with_reducible repeat (first | refine Bk2 ?_ _ | refine Bk3 ?_ | refine Bk1 ?_ _)); refine blk_far ?_ NB371_373.out _; (with_reducible repeat (first | refine Bk2 ?_ _ | refine Bk3 ?_ | refine Bk1 ?_ _)); exact BK371.out⟩, ⟨by (with_reducible repeat (first | refine Bk2 ?_ _ | refine Bk3 ?_ | refine Bk1 ?_ _)); refine blk_put (cs := #[.int .i64 ((rd_T44 l0 0).f0), .int .i64 0]) ?_ 1 _ rfl; (with_reducible repeat (first | refine Bk2 ?_ _ | refine Bk3 ?_ | refine Bk1 ?_ _)); refine blk_put (cs := #[.int .i64 0, .int .i64 0]) ?_ 0 _ rfl; (with_reducible repeat (first | refine Bk2 ?_ _ | refine Bk3 ?_ | refine Bk1 ?_ _)); exact BK373.out⟩, ⟨by repeat (first | (with_reducible first | exact HB.out | apply Bb1 | apply Bb2 | apply Bb3 | refine Bb4 ?_ GE371.out | refine Bb4 ?_ GE373.out) | exact HB.out)⟩⟩
 case round =>
  clear H'
  try clear c2
  try clear c2b0
  try clear c2b1
  try clear p2
  try clear p3
  try clear q3
  try clear hx3
  try clear qi3
  try clear c5
  try clear hcz6_0
  try clear hcz6_1
  try clear hfz6_0
  try clear hfz6_1
  try clear hx372_0
  try clear hx372_1
  try clear p372
  try clear q372
  obtain ⟨x11_1, x374000_1, x374001_1, rfl, HA, HK1, BK371, BK373, HB⟩ := hrel
  cases gk with
  | zero => exact absurd HA.out (by simp [impl_reach.l0])
  | succ k1 =>
   have H := HA.out
   clear HA
   simp only [impl_reach.l0] at H
   by_cases c7 : x11_1 < (l0.length : Int)
   rotate_left
   ·rw [if_neg c7] at H
    have c7b0 : decide (x11_1 < (l0.length : Int)) = false := decide_eq_false c7
    clear c7
    simp only [Option.some.injEq, Prod.mk.injEq] at H
    obtain ⟨rfl, rfl⟩ := H
    have hnb18 := NB373_371.out
    have hnc18 := NB371_373.out
    have hcz19_0 : wr.cell? ⟨gb373, 0, none⟩ = some (.int .i64 x374000_1) := (kc BK373.out 0).trans rfl
    have hcz19_1 : wr.cell? ⟨gb373, 1, none⟩ = some (.int .i64 x374001_1) := (kc BK373.out 1).trans rfl
    have hfz19_0 := kf BK373.out 0
    have hfz19_1 := kf BK373.out 1
    have hcz20_0 : wr.cell? ⟨gb371, 0, none⟩ = some (.int .i64 0) := (kc BK371.out 0).trans rfl
    have hcz20_1 : wr.cell? ⟨gb371, 1, none⟩ = some (.int .i64 0) := (kc BK371.out 1).trans rfl
    have hfz20_0 := kf BK371.out 0
    have hfz20_1 := kf BK371.out 1
    go_wp2
    refine bodyPost_ret (results_cell_row rfl _ _ gb371 44 #[.int .i64 x374000_1, .int .i64 x374001_1] (0, 0) _ rfl (by (with_reducible repeat (first | refine Bk2 ?_ _ | refine Bk3 ?_ | refine Bk1 ?_ _)); refine blk_put (cs := #[.int .i64 x374000_1, .int .i64 0]) ?_ 1 _ rfl; (with_reducible repeat (first | refine Bk2 ?_ _ | refine Bk3 ?_ | refine Bk1 ?_ _)); refine blk_put (cs := #[.int .i64 0, .int .i64 0]) ?_ 0 _ rfl; (with_reducible repeat (first | refine Bk2 ?_ _ | refine Bk3 ?_ | refine Bk1 ?_ _)); exact BK371.out) Tryz.underlying44 rfl (by kernel_rfl)) rfl ?_
    exact ⟨zE, by repeat (first | (with_reducible first | exact HB.out | apply Bb1 | apply Bb2 | apply Bb3 | refine Bb4 ?_ GE371.out | refine Bb4 ?_ GE373.out) | exact HB.out)⟩
   rw [if_pos c7] at H
   have c7b0 : decide (x11_1 < (l0.length : Int)) = true := decide_eq_true c7
   clear c7
   by_cases c8 : 0 ≤ x11_1
   rotate_left
   ·rw [if_neg c8] at H
    exact absurd H (by simp)
   rw [if_pos c8] at H
   have c8b0 : decide (0 ≤ x11_1) = true := decide_eq_true c8
   clear c8
   by_cases c9 : x11_1 < (l0.length : Int)
   rotate_left
   ·rw [if_neg c9] at H
    exact absurd H (by simp)
   rw [if_pos c9] at H
   have c9b0 : decide (x11_1 < (l0.length : Int)) = true := decide_eq_true c9
   clear c9
   obtain ⟨ji10, hji10⟩ : ∃ j_ : Int, (mx x374000_1 ((rd_T44 l0 x11_1).f0)) = j_ := ⟨_, rfl⟩
   replace H : (impl_reach.l0 k1 l0 (l0.length : Int) (wrap64 (x11_1 + 1)) ji10 (mx x374001_1 ((rd_T44 l0 x11_1).f1))) = some (r1, r2) := by first | (rw [hji10] at H; exact H) | (simp only [hji10] at H ⊢; exact H)
   have hji10_ : (if x374000_1 < ((rd_T44 l0 x11_1).f0) then ((rd_T44 l0 x11_1).f0) else x374000_1) = ji10 := hji10
   obtain ⟨ji11, hji11⟩ : ∃ j_ : Int, (mx x374001_1 ((rd_T44 l0 x11_1).f1)) = j_ := ⟨_, rfl⟩
   replace H : (impl_reach.l0 k1 l0 (l0.length : Int) (wrap64 (x11_1 + 1)) ji10 ji11) = some (r1, r2) := by first | (rw [hji11] at H; exact H) | (simp only [hji11] at H ⊢; exact H)
   have hji11_ : (if x374001_1 < ((rd_T44 l0 x11_1).f1) then ((rd_T44 l0 x11_1).f1) else x374001_1) = ji11 := hji11
   have H' := am H
   clear H
   have p374 : 0 ≤ (x11_1 : Int) := zD
   have q374 : x11_1 < (l0.length : Int) := zD
   obtain ⟨ad374, e374, hx374_0, hx374_1⟩ := at_T44 HR0.out x11_1 p374 q374
   obtain rfl : ad372 = ad374 := (by injection e374)
   replace hx374_0 := pc HB.out hx374_0
   replace hx374_1 := pc HB.out hx374_1
   replace p374 := eq_true p374
   replace q374 := eq_true q374
   go_wp2_with (first | ((with_reducible refine gate_dst (N := 5) rfl ?_); refine box_event ?hg (N := 5) ?hd (cs := #[.int .i64 0, .int .i64 0]) (t := 44) ?hr ?_; (case hd => rfl); (case hg => rfl); (case hr => first | (go_simp; done) | (go_simp; rfl)); intro gb375 hg w12 hbox hb; have n0_ := am (Bk4 (g := gb371) (o := .cells #[.int .i64 0, .int .i64 0] 44 (0, 0)) (zK BK371) hb); have n1_ := am (Bk4 (g := gb373) (o := .cells #[.int .i64 x374000_1, .int .i64 x374001_1] 44 (0, 0)) (zK BK373) hb); have n2_ := am (Bb6 (by repeat (first | (with_reducible first | exact HB.out | apply Bb1 | apply Bb2 | apply Bb3 | refine Bb4 ?_ GE371.out | refine Bb4 ?_ GE373.out) | exact HB.out)) hb); have n3_ := am (hbox); have n4_ := am ((by rw [hg]; exact (Bb5 (by repeat (first | (with_reducible first | exact HB.out | apply Bb1 | apply Bb2 | apply Bb3 | refine Bb4 ?_ GE371.out | refine Bb4 ?_ GE373.out) | exact HB.out))) : w.heap.size ≤ gb375)); have n5_ := n4_; have n6_ := am ((by rw [hg]; exact nl (Bk5 (g := gb371) (o := .cells #[.int .i64 0, .int .i64 0] 44 (0, 0)) (zK BK371)) : gb371 ≠ gb375)); have n7_ := am ((by rw [hg]; exact ng (Bk5 (g := gb371) (o := .cells #[.int .i64 0, .int .i64 0] 44 (0, 0)) (zK BK371)) : gb375 ≠ gb371)); have n8_ := am ((by rw [hg]; exact nl (Bk5 (g := gb373) (o := .cells #[.int .i64 x374000_1, .int .i64 x374001_1] 44 (0, 0)) (zK BK373)) : gb373 ≠ gb375)); have n9_ := am ((by rw [hg]; exact ng (Bk5 (g := gb373) (o := .cells #[.int .i64 x374000_1, .int .i64 x374001_1] 44 (0, 0)) (zK BK373)) : gb375 ≠ gb373)); clear BK371; clear BK373; clear HB; have BK371 := n0_; have BK373 := n1_; have HB := n2_; have BK375 := n3_; have GW375 := n4_; have GE375 := n5_; have NB371_375 := n6_; have NB375_371 := n7_; have NB373_375 := n8_; have NB375_373 := n9_; clear n0_ n1_ n2_ n3_ n4_ n5_ n6_ n7_ n8_ n9_; clear hb hbox hg; have hnb13 := NB375_371.out; have hnc13 := NB371_375.out; have hnb14 := NB375_373.out; have hnc14 := NB373_375.out; have hcz15_0 : w12.cell? ⟨gb375, 0, none⟩ = some (.int .i64 0) := (kc BK375.out 0).trans rfl; have hcz15_1 : w12.cell? ⟨gb375, 1, none⟩ = some (.int .i64 0) := (kc BK375.out 1).trans rfl; have hfz15_0 := kf BK375.out 0; have hfz15_1 := kf BK375.out 1; have hnb16 := NB373_371.out; have hnc16 := NB371_373.out; have hcz17_0 : w12.cell? ⟨gb373, 0, none⟩ = some (.int .i64 x374000_1) := (kc BK373.out 0).trans rfl; have hcz17_1 : w12.cell? ⟨gb373, 1, none⟩ = some (.int .i64 x374001_1) := (kc BK373.out 1).trans rfl; have hfz17_0 := kf BK373.out 0; have hfz17_1 := kf BK373.out 1))
   go_roundg k1
   case measure => have := HK1.out; omega
   case rel => exact ⟨(wrap64 (x11_1 + 1)), (ji10), (ji11), zS, H', ⟨by have := HK1.out; omega⟩, ⟨by (with_reducible repeat (first | refine Bk2 ?_ _ | refine Bk3 ?_ | refine Bk1 ?_ _)); refine blk_far ?_ NB371_373.out _; (with_reducible repeat (first | refine Bk2 ?_ _ | refine Bk3 ?_ | refine Bk1 ?_ _)); refine blk_far ?_ NB371_373.out _; (with_reducible repeat (first | refine Bk2 ?_ _ | refine Bk3 ?_ | refine Bk1 ?_ _)); refine blk_far ?_ NB371_375.out _; (with_reducible repeat (first | refine Bk2 ?_ _ | refine Bk3 ?_ | refine Bk1 ?_ _)); refine blk_far ?_ NB371_375.out _; (with_reducible repeat (first | refine Bk2 ?_ _ | refine Bk3 ?_ | refine Bk1 ?_ _)); exact BK371.out⟩, ⟨by (with_reducible repeat (first | refine Bk2 ?_ _ | refine Bk3 ?_ | refine Bk1 ?_ _)); refine blk_put (cs := #[.int .i64 ji10, .int .i64 x374001_1]) ?_ 1 _ rfl; (with_reducible repeat (first | refine Bk2 ?_ _ | refine Bk3 ?_ | refine Bk1 ?_ _)); refine blk_put (cs := #[.int .i64 x374000_1, .int .i64 x374001_1]) ?_ 0 _ rfl; (with_reducible repeat (first | refine Bk2 ?_ _ | refine Bk3 ?_ | refine Bk1 ?_ _)); refine blk_far ?_ NB373_375.out _; (with_reducible repeat (first | refine Bk2 ?_ _ | refine Bk3 ?_ | refine Bk1 ?_ _)); refine blk_far ?_ NB373_375.out _; (with_reducible repeat (first | refine Bk2 ?_ _ | refine Bk3 ?_ | refine Bk1 ?_ _)); exact BK373.out⟩, ⟨by repeat (first | (with_reducible first | exact HB.out | apply Bb1 | apply Bb2 | apply Bb3 | refine Bb4 ?_ GE371.out | refine Bb4 ?_ GE373.out | refine Bb4 ?_ GE375.out) | exact HB.out)⟩⟩

/-! ### impl_IsRegion: function 32 -/
def impl_IsRegion.f (k : Nat) (l0 : List (S44)) : Option (Bool) := (impl_IsShape.f k l0).bind fun t376 => (if t376 = true then ((impl_corner.f k l0).bind fun bt377 => (if (!(bt377.1 == 0) || (!(bt377.2 == 0))) = true then (some false) else ((impl_reach.f k l0).bind fun bt379 => (if bt379.1 < 20 then (some (decide (bt379.2 < 20))) else (some false))))) else (some false))
theorem impl_IsRegion.mono : ∀ a0 k, LeO (impl_IsRegion.f k a0) (impl_IsRegion.f (k + 1) a0) := by
 intro a0 k
 unfold impl_IsRegion.f
 with_reducible repeat' first | exact impl_IsShape.mono _ _ | exact impl_corner.mono _ _ | exact impl_reach.mono _ _ | exact LeO.refl _ | exact LeO.none _ | refine LeO.ite ?_ ?_ | refine LeO.bind ?_ (fun _ => ?_)
set_option maxHeartbeats 8000000 in
set_option maxRecDepth 100000 in
theorem impl_IsRegion.calls (k : Nat) (A0 : Option Addr) (c0 : Nat) (l0 : List (S44)) (r : Bool) (w : World) (hr0 : Kd.C k44 w A0 l0.length l0) (hc0 : l0.length ≤ c0) (h : impl_IsRegion.f k l0 = some r) :
  Calls Tryz.prog 32 #[.slice A0 l0.length c0] w fun e w' => e = .returned (.bool r) ∧ Below w.heap.size w w' := by
 have hu44 := Tryz.underlying44
 have HR0 := am hr0
 have HC0 := am hc0
 clear hr0 hc0
 have HB := am (Below.refl w.heap.size w)
 have H : ((impl_IsShape.f k l0).bind fun t376 => (if t376 = true then ((impl_corner.f k l0).bind fun bt377 => (if (!(bt377.1 == 0) || (!(bt377.2 == 0))) = true then (some false) else ((impl_reach.f k l0).bind fun bt379 => (if bt379.1 < 20 then (some (decide (bt379.2 < 20))) else (some false))))) else (some false))) = some r := h
 clear h
 replace H := ob H
 obtain ⟨t376, A20, H⟩ := H
 (try dsimp only at H)
 have A2 := am A20
 clear A20
 by_cases c3 : t376 = true
 rotate_left
 ·replace c3 := ef c3
  subst c3
  have H1 : (some false) = some r := by first | (rw [if_neg (show ¬ (false = true) by decide)] at H; exact H) | rfl
  clear H
  have H := H1
  clear H1
  obtain rfl := oi H
  go_enter Tryz.func32, Tryz.ntmps32
  go_wp2_with (first | ((with_reducible refine gate_callee (f := 52) rfl ?_); refine goesL_ (some 5) rfl rfl Tryz.func52 (by kernel_rfl) rfl #[.slice A0 l0.length c0] rfl zL ?_; (with_reducible refine (impl_IsShape.calls k _ _ l0 false _ ?side1 ?side2 A2.out).mono ?_); (case side1 => repeat (first | exact HR0.out | (with_reducible refine Kd.C_alloc ?_ _) | (with_reducible refine Kd.C_drewN ?_ _) | (with_reducible refine Kd.C_drew ?_))); (case side2 => exact HC0.out); rintro e w20 ⟨rfl, hb⟩; refine ⟨_, rfl, ?_⟩; have n0_ := am (Bb6 zB hb); clear HB; have HB := n0_; clear n0_; (try clear hb); (try clear hb2); (try clear hk); (try clear hi)))
  go_ret
  exact ⟨zE, zB⟩
 subst c3
 have H1 : ((impl_corner.f k l0).bind fun bt377 => (if (!(bt377.1 == 0) || (!(bt377.2 == 0))) = true then (some false) else ((impl_reach.f k l0).bind fun bt379 => (if bt379.1 < 20 then (some (decide (bt379.2 < 20))) else (some false))))) = some r := by first | (rw [if_pos rfl] at H; exact H) | rfl
 clear H
 have H := H1
 clear H1
 replace H := ob H
 obtain ⟨⟨t377, t378⟩, A40, H⟩ := H
 (try dsimp only at H)
 have A4 := am A40
 clear A40
 by_cases c5 : (!(t377 == 0) || (!(t378 == 0))) = true
 ·rw [if_pos c5] at H
  have c5b0 : (!(t377 == 0) || (!(t378 == 0))) = true := c5
  clear c5
  obtain rfl := oi H
  go_enter Tryz.func32, Tryz.ntmps32
  go_wp2_with (first | ((with_reducible refine gate_callee (f := 52) rfl ?_); refine goesL_ (some 5) rfl rfl Tryz.func52 (by kernel_rfl) rfl #[.slice A0 l0.length c0] rfl zL ?_; (with_reducible refine (impl_IsShape.calls k _ _ l0 true _ ?side1 ?side2 A2.out).mono ?_); (case side1 => repeat (first | exact HR0.out | (with_reducible refine Kd.C_alloc ?_ _) | (with_reducible refine Kd.C_drewN ?_ _) | (with_reducible refine Kd.C_drew ?_))); (case side2 => exact HC0.out); rintro e w6 ⟨rfl, hb⟩; refine ⟨_, rfl, ?_⟩; have n0_ := am (Bb6 zB hb); clear HB; have HB := n0_; clear n0_; (try clear hb); (try clear hb2); (try clear hk); (try clear hi)) | (go_at_call 53; (with_reducible refine (impl_corner.calls k _ _ l0 t377 t378 _ ?side1 ?side2 A4.out).mono ?_); (case side1 => repeat (first | exact (Kd.C_below HR0.out HB.out) | (with_reducible refine Kd.C_alloc ?_ _) | (with_reducible refine Kd.C_drewN ?_ _) | (with_reducible refine Kd.C_drew ?_))); (case side2 => exact HC0.out); rintro e w7 ⟨rfl, hb⟩; have n0_ := am (Bb6 zB hb); clear HB; have HB := n0_; clear n0_; (try clear hb); (try clear hb2); (try clear hk); (try clear hi)))
  go_ret
  exact ⟨zE, zB⟩
 rw [if_neg c5] at H
 have c5b0 : (!(t377 == 0) || (!(t378 == 0))) = false := by simpa using c5
 clear c5
 replace H := ob H
 obtain ⟨⟨t379, t380⟩, A80, H⟩ := H
 (try dsimp only at H)
 have A8 := am A80
 clear A80
 by_cases c9 : t379 < 20
 ·rw [if_pos c9] at H
  have c9b0 : decide (t379 < 20) = true := decide_eq_true c9
  clear c9
  obtain rfl := oi H
  go_enter Tryz.func32, Tryz.ntmps32
  go_wp2_with (first | ((with_reducible refine gate_callee (f := 52) rfl ?_); refine goesL_ (some 5) rfl rfl Tryz.func52 (by kernel_rfl) rfl #[.slice A0 l0.length c0] rfl zL ?_; (with_reducible refine (impl_IsShape.calls k _ _ l0 true _ ?side1 ?side2 A2.out).mono ?_); (case side1 => repeat (first | exact HR0.out | (with_reducible refine Kd.C_alloc ?_ _) | (with_reducible refine Kd.C_drewN ?_ _) | (with_reducible refine Kd.C_drew ?_))); (case side2 => exact HC0.out); rintro e w10 ⟨rfl, hb⟩; refine ⟨_, rfl, ?_⟩; have n0_ := am (Bb6 zB hb); clear HB; have HB := n0_; clear n0_; (try clear hb); (try clear hb2); (try clear hk); (try clear hi)) | (go_at_call 53; (with_reducible refine (impl_corner.calls k _ _ l0 t377 t378 _ ?side1 ?side2 A4.out).mono ?_); (case side1 => repeat (first | exact (Kd.C_below HR0.out HB.out) | (with_reducible refine Kd.C_alloc ?_ _) | (with_reducible refine Kd.C_drewN ?_ _) | (with_reducible refine Kd.C_drew ?_))); (case side2 => exact HC0.out); rintro e w11 ⟨rfl, hb⟩; have n0_ := am (Bb6 zB hb); clear HB; have HB := n0_; clear n0_; (try clear hb); (try clear hb2); (try clear hk); (try clear hi)) | ((with_reducible refine gate_callee (f := 54) rfl ?_); refine goesL_ (some 14) rfl rfl Tryz.func54 (by kernel_rfl) rfl #[.slice A0 l0.length c0] rfl zL ?_; (with_reducible refine (impl_reach.calls k _ _ l0 t379 t380 _ ?side1 ?side2 A8.out).mono ?_); (case side1 => repeat (first | exact (Kd.C_below HR0.out HB.out) | (with_reducible refine Kd.C_alloc ?_ _) | (with_reducible refine Kd.C_drewN ?_ _) | (with_reducible refine Kd.C_drew ?_))); (case side2 => exact HC0.out); rintro e w12 ⟨rfl, hb⟩; refine ⟨_, rfl, ?_⟩; have n0_ := am (Bb6 zB hb); clear HB; have HB := n0_; clear n0_; (try clear hb); (try clear hb2); (try clear hk); (try clear hi)) | ((with_reducible refine gate_dst (N := 3) rfl ?_); refine box_event ?hg (N := 3) ?hd (cs := #[.int .i64 0, .int .i64 0]) (t := 44) ?hr ?_; (case hd => rfl); (case hg => rfl); (case hr => first | (go_simp; done) | (go_simp; rfl)); intro gb381 hg w13 hbox hb; have n0_ := am (Bb6 zB hb); have n1_ := am (hbox); have n2_ := am ((by rw [hg]; exact (Bb5 zB) : w.heap.size ≤ gb381)); have n3_ := n2_; clear HB; have HB := n0_; have BK381 := n1_; have GW381 := n2_; have GE381 := n3_; clear n0_ n1_ n2_ n3_; clear hb hbox hg; have hcz14_0 : w13.cell? ⟨gb381, 0, none⟩ = some (.int .i64 0) := (kc BK381.out 0).trans rfl; have hcz14_1 : w13.cell? ⟨gb381, 1, none⟩ = some (.int .i64 0) := (kc BK381.out 1).trans rfl; have hfz14_0 := kf BK381.out 0; have hfz14_1 := kf BK381.out 1))
  go_ret
  exact ⟨zE, by repeat (first | (with_reducible first | exact HB.out | apply Bb1 | apply Bb2 | apply Bb3 | refine Bb4 ?_ GE381.out) | exact HB.out)⟩
 rw [if_neg c9] at H
 have c9b0 : decide (t379 < 20) = false := decide_eq_false c9
 clear c9
 obtain rfl := oi H
 go_enter Tryz.func32, Tryz.ntmps32
 go_wp2_with (first | ((with_reducible refine gate_callee (f := 52) rfl ?_); refine goesL_ (some 5) rfl rfl Tryz.func52 (by kernel_rfl) rfl #[.slice A0 l0.length c0] rfl zL ?_; (with_reducible refine (impl_IsShape.calls k _ _ l0 true _ ?side1 ?side2 A2.out).mono ?_); (case side1 => repeat (first | exact HR0.out | (with_reducible refine Kd.C_alloc ?_ _) | (with_reducible refine Kd.C_drewN ?_ _) | (with_reducible refine Kd.C_drew ?_))); (case side2 => exact HC0.out); rintro e w15 ⟨rfl, hb⟩; refine ⟨_, rfl, ?_⟩; have n0_ := am (Bb6 zB hb); clear HB; have HB := n0_; clear n0_; (try clear hb); (try clear hb2); (try clear hk); (try clear hi)) | (go_at_call 53; (with_reducible refine (impl_corner.calls k _ _ l0 t377 t378 _ ?side1 ?side2 A4.out).mono ?_); (case side1 => repeat (first | exact (Kd.C_below HR0.out HB.out) | (with_reducible refine Kd.C_alloc ?_ _) | (with_reducible refine Kd.C_drewN ?_ _) | (with_reducible refine Kd.C_drew ?_))); (case side2 => exact HC0.out); rintro e w16 ⟨rfl, hb⟩; have n0_ := am (Bb6 zB hb); clear HB; have HB := n0_; clear n0_; (try clear hb); (try clear hb2); (try clear hk); (try clear hi)) | ((with_reducible refine gate_callee (f := 54) rfl ?_); refine goesL_ (some 14) rfl rfl Tryz.func54 (by kernel_rfl) rfl #[.slice A0 l0.length c0] rfl zL ?_; (with_reducible refine (impl_reach.calls k _ _ l0 t379 t380 _ ?side1 ?side2 A8.out).mono ?_); (case side1 => repeat (first | exact (Kd.C_below HR0.out HB.out) | (with_reducible refine Kd.C_alloc ?_ _) | (with_reducible refine Kd.C_drewN ?_ _) | (with_reducible refine Kd.C_drew ?_))); (case side2 => exact HC0.out); rintro e w17 ⟨rfl, hb⟩; refine ⟨_, rfl, ?_⟩; have n0_ := am (Bb6 zB hb); clear HB; have HB := n0_; clear n0_; (try clear hb); (try clear hb2); (try clear hk); (try clear hi)) | ((with_reducible refine gate_dst (N := 3) rfl ?_); refine box_event ?hg (N := 3) ?hd (cs := #[.int .i64 0, .int .i64 0]) (t := 44) ?hr ?_; (case hd => rfl); (case hg => rfl); (case hr => first | (go_simp; done) | (go_simp; rfl)); intro gb381 hg w18 hbox hb; have n0_ := am (Bb6 zB hb); have n1_ := am (hbox); have n2_ := am ((by rw [hg]; exact (Bb5 zB) : w.heap.size ≤ gb381)); have n3_ := n2_; clear HB; have HB := n0_; have BK381 := n1_; have GW381 := n2_; have GE381 := n3_; clear n0_ n1_ n2_ n3_; clear hb hbox hg; have hcz19_0 : w18.cell? ⟨gb381, 0, none⟩ = some (.int .i64 0) := (kc BK381.out 0).trans rfl; have hcz19_1 : w18.cell? ⟨gb381, 1, none⟩ = some (.int .i64 0) := (kc BK381.out 1).trans rfl; have hfz19_0 := kf BK381.out 0; have hfz19_1 := kf BK381.out 1))
 go_ret
 exact ⟨zE, by repeat (first | (with_reducible first | exact HB.out | apply Bb1 | apply Bb2 | apply Bb3 | refine Bb4 ?_ GE381.out) | exact HB.out)⟩

/-! ### impl_around: function 34 -/
def impl_around.f (a0_0 : Int) (a0_1 : Int) : Option ((List (S44))) := some (([(⟨a0_0, wrap64 (a0_1 - 1)⟩ : S44), (⟨wrap64 (a0_0 - 1), a0_1⟩ : S44), (⟨wrap64 (a0_0 + 1), a0_1⟩ : S44), (⟨a0_0, wrap64 (a0_1 + 1)⟩ : S44)] : List (S44)))
set_option maxHeartbeats 8000000 in
set_option maxRecDepth 100000 in
theorem impl_around.calls (a0_0 : Int) (a0_1 : Int) (r : List (S44)) (w : World) (h : impl_around.f a0_0 a0_1 = some r) :
  Calls Tryz.prog 34 #[.agg #[.int .i64 a0_0, .int .i64 a0_1]] w fun e w' => ∃ v0_ : Value, e = .returned (v0_) ∧ Kd.R k44 44 w' w.heap.size (fun _ => True) v0_ r ∧ Below w.heap.size w w' := by
 have hu44 := Tryz.underlying44
 have HB := am (Below.refl w.heap.size w)
 have H : (some (([(⟨a0_0, wrap64 (a0_1 - 1)⟩ : S44), (⟨wrap64 (a0_0 - 1), a0_1⟩ : S44), (⟨wrap64 (a0_0 + 1), a0_1⟩ : S44), (⟨a0_0, wrap64 (a0_1 + 1)⟩ : S44)] : List (S44)))) = some r := h
 clear h
 obtain ⟨y383, hy383⟩ : ∃ y_ : List (S44), y_ = (([(⟨a0_0, wrap64 (a0_1 - 1)⟩ : S44), (⟨wrap64 (a0_0 - 1), a0_1⟩ : S44), (⟨wrap64 (a0_0 + 1), a0_1⟩ : S44), (⟨a0_0, wrap64 (a0_1 + 1)⟩ : S44)] : List (S44))) := ⟨_, rfl⟩
 replace H : (some y383) = some r := by first | (rw [hy383]; with_reducible exact H) | (have H2_ := (Option.bind_some _ _).symm.trans H; rw [hy383]; with_reducible exact H2_) | (have H2_ := (Option.bind_some _ _).symm.trans H; with_reducible exact H2_) | with_reducible exact H | (rw [hy383]; exact H) | exact H
 have Ny383 := am hy383
 clear hy383
 obtain rfl := oi H
 go_enter Tryz.func34, Tryz.ntmps34
 go_wp2_with (first | ((with_reducible refine gate_dst (N := 1) rfl ?_); refine box_event ?hg (N := 1) ?hd (cs := #[.int .i64 a0_0, .int .i64 a0_1]) (t := 44) ?hr ?_; (case hd => rfl); (case hg => rfl); (case hr => first | (go_simp; done) | (go_simp; rfl)); intro gb382 hg w2 hbox hb; have n0_ := am (Bb6 zB hb); have n1_ := am (hbox); have n2_ := am ((by rw [hg]; exact (Bb5 zB) : w.heap.size ≤ gb382)); have n3_ := n2_; clear HB; have HB := n0_; have BK382 := n1_; have GW382 := n2_; have GE382 := n3_; clear n0_ n1_ n2_ n3_; clear hb hbox hg; have hcz3_0 : w2.cell? ⟨gb382, 0, none⟩ = some (.int .i64 a0_0) := (kc BK382.out 0).trans rfl; have hcz3_1 : w2.cell? ⟨gb382, 1, none⟩ = some (.int .i64 a0_1) := (kc BK382.out 1).trans rfl; have hfz3_0 := kf BK382.out 0; have hfz3_1 := kf BK382.out 1) | ((with_reducible refine gate_dst (N := 27) rfl ?_); refine Kd.R_lit k44 _ 44 ?hg (N := 27) ?hd (xs := ([(⟨a0_0, wrap64 (a0_1 - 1)⟩ : S44), (⟨wrap64 (a0_0 - 1), a0_1⟩ : S44), (⟨wrap64 (a0_0 + 1), a0_1⟩ : S44), (⟨a0_0, wrap64 (a0_1 + 1)⟩ : S44)] : List (S44))) (inner := [.int .i64 a0_0, .int .i64 (wrap64 (a0_1 - 1)), .int .i64 (wrap64 (a0_0 - 1)), .int .i64 a0_1, .int .i64 (wrap64 (a0_0 + 1)), .int .i64 a0_1, .int .i64 a0_0, .int .i64 (wrap64 (a0_1 + 1))]) (ok := fun _ => True) (okp := fun _ => True) ?hr ?hp (fun _ hk => hk) trivial (Below.refl _ _) (Nat.le_refl _) (by simp) ?_; (case hd => rfl); (case hg => rfl); (case hr => first | (go_simp; done) | (go_simp; rfl)); (case hp => exact (Reps.c2 (show Kd.M k44 _ _ _ (⟨a0_0, wrap64 (a0_1 - 1)⟩ : S44) [.int .i64 a0_0, .int .i64 (wrap64 (a0_1 - 1))] from (k44_mkM _ _ _ (⟨a0_0, wrap64 (a0_1 - 1)⟩ : S44) )) (Reps.c2 (show Kd.M k44 _ _ _ (⟨wrap64 (a0_0 - 1), a0_1⟩ : S44) [.int .i64 (wrap64 (a0_0 - 1)), .int .i64 a0_1] from (k44_mkM _ _ _ (⟨wrap64 (a0_0 - 1), a0_1⟩ : S44) )) (Reps.c2 (show Kd.M k44 _ _ _ (⟨wrap64 (a0_0 + 1), a0_1⟩ : S44) [.int .i64 (wrap64 (a0_0 + 1)), .int .i64 a0_1] from (k44_mkM _ _ _ (⟨wrap64 (a0_0 + 1), a0_1⟩ : S44) )) (Reps.c2 (show Kd.M k44 _ _ _ (⟨a0_0, wrap64 (a0_1 + 1)⟩ : S44) [.int .i64 a0_0, .int .i64 (wrap64 (a0_1 + 1))] from (k44_mkM _ _ _ (⟨a0_0, wrap64 (a0_1 + 1)⟩ : S44) )) (Reps.none _ _)))))); intro v384 w4 ho5 hb hg_ hnew_; clear hg_ hnew_; (first | rw [← Ny383.out] at ho5 | (simp only [Int.reduceToNat] at ho5; rw [← Ny383.out] at ho5)); have n0_ := am (Kd.R_lower (Kd.R_newB ho5 (g := gb382) (o := .cells #[.int .i64 a0_0, .int .i64 a0_1] 44 (0, 0)) (zK BK382)) (Bb5 (by repeat (first | (with_reducible first | exact HB.out | apply Bb1 | apply Bb2 | apply Bb3 | refine Bb4 ?_ GE382.out) | exact HB.out)))); have n1_ := am (Bk4 (g := gb382) (o := .cells #[.int .i64 a0_0, .int .i64 a0_1] 44 (0, 0)) (zK BK382) hb); have n2_ := am (Bb6 (by repeat (first | (with_reducible first | exact HB.out | apply Bb1 | apply Bb2 | apply Bb3 | refine Bb4 ?_ GE382.out) | exact HB.out)) hb); clear BK382; clear HB; have HO385 := n0_; have BK382 := n1_; have HB := n2_; clear n0_ n1_ n2_; clear hb ho5))
 go_ret
 exact ⟨_, zE, by (with_reducible repeat (first | apply Kd.R_alloc | apply Kd.R_drewN | apply Kd.R_drew)); exact Kd.R_mono HO385.out (fun _ hk => trivial), by repeat (first | (with_reducible first | exact HB.out | apply Bb1 | apply Bb2 | apply Bb3 | refine Bb4 ?_ GE382.out) | exact HB.out)⟩

end Go.Proofs.YtbbhohaenijaoaaGreat.Q
