/- Written by a program of this session (wip/tools/pp.py) out of the translation, with the kit's printer. -/
import Derived.Test.YtbphiipcnjelbaaGreatQ0
import Derived.Test.YtbphiipcnjelbaaGreatQ8
import Derived.Test.YtbphiipcnjelbaaGreatQ1
namespace Go.Proofs.YtbphiipcnjelbaaGreat.Q
open Go.RowKit Go.Proofs.YtbphiipcnjelbaaGreatW.PrintWords Go.Proofs.YtbphiipcnjelbaaGreatW.PrintLast Go.Proofs.YtbphiipcnjelbaaGreatW.PrintMore
attribute [local go_sem] max2_int min2_int max_two min_two max_three min_three max_four min_four
set_option linter.unusedVariables false
set_option linter.unusedSimpArgs false

attribute [local go_sem high] eqA66
/-! ### impl_corner: function 82 -/
def impl_corner.l0 : Nat → List (S66) → Int → Int → Int → Int → Option (Int × Int)
 | 0, _, _, _, _, _ => none
 | k + 1, x9, x10, x11, x326000, x326001 => if x11 < x10 then (if 0 ≤ x11 then (if x11 < (x9.length : Int) then (impl_corner.l0 k x9 x10 (wrap64 (x11 + 1)) (mn x326000 ((rd_T66 x9 x11).f0)) (mn x326001 ((rd_T66 x9 x11).f1))) else (none)) else (none)) else (some (x326000, x326001))
def impl_corner.f (k : Nat) (l0 : List (S66)) : Option (Int × Int) := if 0 < (l0.length : Int) then (impl_corner.l0 k l0 (l0.length : Int) 0 ((rd_T66 l0 0).f0) ((rd_T66 l0 0).f1)) else (none)
theorem impl_corner.mono_l : ∀ k, (∀ y0 y1 y2 y3 y4, LeO (impl_corner.l0 k y0 y1 y2 y3 y4) (impl_corner.l0 (k + 1) y0 y1 y2 y3 y4))
 | 0 => fun _ _ _ _ _ r h => by simp [impl_corner.l0] at h
 | k + 1 => by
  have ih0 := impl_corner.mono_l k
  ·intro y0 y1 y2 y3 y4
   unfold impl_corner.l0
   with_reducible repeat' first | exact ih0 _ _ _ _ _ | exact LeO.refl _ | exact LeO.none _ | refine LeO.ite ?_ ?_ | refine LeO.bind ?_ (fun _ => ?_)
theorem impl_corner.mono : ∀ a0 k, LeO (impl_corner.f k a0) (impl_corner.f (k + 1) a0) := by
 intro a0 k
 have ih0 := impl_corner.mono_l k
 unfold impl_corner.f
 with_reducible repeat' first | exact ih0 _ _ _ _ _ | exact LeO.refl _ | exact LeO.none _ | refine LeO.ite ?_ ?_ | refine LeO.bind ?_ (fun _ => ?_)
set_option maxHeartbeats 8000000 in
set_option maxRecDepth 100000 in
theorem impl_corner.calls (k : Nat) (A0 : Option Addr) (c0 : Nat) (l0 : List (S66)) (r1 : Int) (r2 : Int) (w : World) (hr0 : Kd.C k66 w A0 l0.length l0) (hc0 : l0.length ≤ c0) (h : impl_corner.f k l0 = some (r1, r2)) :
  Calls Tryz.prog 82 #[.slice A0 l0.length c0] w fun e w' => e = .returned (.agg #[.int .i64 r1, .int .i64 r2]) ∧ Below w.heap.size w w' := by
 have hu66 := Tryz.underlying66
 have HR0 := am hr0
 have HC0 := am hc0
 clear hr0 hc0
 have HB := am (Below.refl w.heap.size w)
 have H : (if 0 < (l0.length : Int) then (impl_corner.l0 k l0 (l0.length : Int) 0 ((rd_T66 l0 0).f0) ((rd_T66 l0 0).f1)) else (none)) = some (r1, r2) := h
 clear h
 by_cases c2 : 0 < (l0.length : Int)
 rotate_left
 ·rw [if_neg c2] at H
  exact absurd H (by simp)
 rw [if_pos c2] at H
 have c2b0 : decide (0 < (l0.length : Int)) = true := decide_eq_true c2
 have c2b1 : decide (0 < l0.length) = true := decide_eq_true (by omega)
 clear c2
 have H' := am H
 clear H
 go_enter Tryz.func82, Tryz.ntmps82
 go_wp2_with (first | ((with_reducible refine gate_dst (N := 2) rfl ?_); refine box_event ?hg (N := 2) ?hd (cs := #[.int .i64 0, .int .i64 0]) (t := 66) ?hr ?_; (case hd => rfl); (case hg => rfl); (case hr => first | (go_simp; done) | (go_simp; rfl)); intro gb323 hg w3 hbox hb; have n0_ := am (Bb6 zB hb); have n1_ := am (hbox); have n2_ := am ((by rw [hg]; exact (Bb5 zB) : w.heap.size ≤ gb323)); have n3_ := n2_; clear HB; have HB := n0_; have BK323 := n1_; have GW323 := n2_; have GE323 := n3_; clear n0_ n1_ n2_ n3_; clear hb hbox hg; have p324 : 0 ≤ (0 : Int) := (by omega); have q324 : 0 < (l0.length : Int) := zD; obtain ⟨ad324, e324, hx324_0, hx324_1⟩ := at_T66 HR0.out 0 p324 q324; cases e324; have qi324 : (0 < l0.length) = True := eq_true (by omega); (try rw [show ((0 : Int)).toNat = 0 from rfl] at hx324_0); (try rw [show 0 * 2 = 0 from rfl] at hx324_0); (try rw [Addr.add_zero'] at hx324_0); (try rw [show ((0 : Int)).toNat = 0 from rfl] at hx324_1); (try rw [show 0 * 2 = 0 from rfl] at hx324_1); (try rw [Addr.add_zero'] at hx324_1); replace hx324_0 := pc HB.out hx324_0; replace hx324_1 := pc HB.out hx324_1; replace p324 := eq_true p324; replace q324 := eq_true q324) | ((with_reducible refine gate_dst (N := 3) rfl ?_); refine box_event ?hg (N := 3) ?hd (cs := #[.int .i64 0, .int .i64 0]) (t := 66) ?hr ?_; (case hd => rfl); (case hg => rfl); (case hr => first | (go_simp; done) | (go_simp; rfl)); intro gb325 hg w4 hbox hb; have n0_ := am (Bk4 (g := gb323) (o := .cells #[.int .i64 0, .int .i64 0] 66 (0, 0)) (zK BK323) hb); have n1_ := am (Bb6 (by repeat (first | (with_reducible first | exact HB.out | apply Bb1 | apply Bb2 | apply Bb3 | refine Bb4 ?_ GE323.out) | exact HB.out)) hb); have n2_ := am (hbox); have n3_ := am ((by rw [hg]; exact (Bb5 (by repeat (first | (with_reducible first | exact HB.out | apply Bb1 | apply Bb2 | apply Bb3 | refine Bb4 ?_ GE323.out) | exact HB.out))) : w.heap.size ≤ gb325)); have n4_ := n3_; have n5_ := am ((by rw [hg]; exact nl (Bk5 (g := gb323) (o := .cells #[.int .i64 0, .int .i64 0] 66 (0, 0)) (zK BK323)) : gb323 ≠ gb325)); have n6_ := am ((by rw [hg]; exact ng (Bk5 (g := gb323) (o := .cells #[.int .i64 0, .int .i64 0] 66 (0, 0)) (zK BK323)) : gb325 ≠ gb323)); clear BK323; clear HB; have BK323 := n0_; have HB := n1_; have BK325 := n2_; have GW325 := n3_; have GE325 := n4_; have NB323_325 := n5_; have NB325_323 := n6_; clear n0_ n1_ n2_ n3_ n4_ n5_ n6_; clear hb hbox hg; have hnb5 := NB325_323.out; have hnc5 := NB323_325.out; have hcz6_0 : w4.cell? ⟨gb325, 0, none⟩ = some (.int .i64 0) := (kc BK325.out 0).trans rfl; have hcz6_1 : w4.cell? ⟨gb325, 1, none⟩ = some (.int .i64 0) := (kc BK325.out 1).trans rfl; have hfz6_0 := kf BK325.out 0; have hfz6_1 := kf BK325.out 1))
 go_loopg [11] k (fun kq v11 w' => ∃ (x11_1 : Int) (x326000_1 : Int) (x326001_1 : Int), v11 = .int .i64 x11_1 ∧ Aside0 (impl_corner.l0 kq l0 (l0.length : Int) x11_1 x326000_1 x326001_1 = some (r1, r2)) ∧ Aside0 (kq ≤ k) ∧ Aside0 (w'.heap[gb323]? = some (.cells #[.int .i64 0, .int .i64 0] 66 (0, 0))) ∧ Aside0 (w'.heap[gb325]? = some (.cells #[.int .i64 x326000_1, .int .i64 x326001_1] 66 (0, 0))) ∧ Aside0 (Below w.heap.size w w'))
 case atStart => exact ⟨(0), ((rd_T66 l0 0).f0), ((rd_T66 l0 0).f1), zS, H', ⟨Nat.le_refl _⟩, ⟨by (with_reducible repeat (first | refine Bk2 ?_ _ | refine Bk3 ?_ | refine Bk1 ?_ _)); refine blk_far ?_ NB323_325.out _; (with_reducible repeat (first | refine Bk2 ?_ _ | refine Bk3 ?_ | refine Bk1 ?_ _)); refine blk_far ?_ NB323_325.out _; (with_reducible repeat (first | refine Bk2 ?_ _ | refine Bk3 ?_ | refine Bk1 ?_ _)); exact BK323.out⟩, ⟨by (with_reducible repeat (first | refine Bk2 ?_ _ | refine Bk3 ?_ | refine Bk1 ?_ _)); refine blk_put (cs := #[.int .i64 ((rd_T66 l0 0).f0), .int .i64 0]) ?_ 1 _ rfl; (with_reducible repeat (first | refine Bk2 ?_ _ | refine Bk3 ?_ | refine Bk1 ?_ _)); refine blk_put (cs := #[.int .i64 0, .int .i64 0]) ?_ 0 _ rfl; (with_reducible repeat (first | refine Bk2 ?_ _ | refine Bk3 ?_ | refine Bk1 ?_ _)); exact BK325.out⟩, ⟨by repeat (first | (with_reducible first | exact HB.out | apply Bb1 | apply Bb2 | apply Bb3 | refine Bb4 ?_ GE323.out | refine Bb4 ?_ GE325.out) | exact HB.out)⟩⟩
 case round =>
  clear H'
  try clear c2
  try clear c2b0
  try clear c2b1
  try clear p2
  try clear p3
  try clear q3
  try clear hx3
  try clear qi3
  try clear c5
  try clear hcz6_0
  try clear hcz6_1
  try clear hfz6_0
  try clear hfz6_1
  try clear hx324_0
  try clear hx324_1
  try clear p324
  try clear q324
  obtain ⟨x11_1, x326000_1, x326001_1, rfl, HA, HK1, BK323, BK325, HB⟩ := hrel
  cases gk with
  | zero => exact absurd HA.out (by simp [impl_corner.l0])
  | succ k1 =>
   have H := HA.out
   clear HA
   simp only [impl_corner.l0] at H
   by_cases c7 : x11_1 < (l0.length : Int)
   rotate_left
   ·rw [if_neg c7] at H
    have c7b0 : decide (x11_1 < (l0.length : Int)) = false := decide_eq_false c7
    clear c7
    simp only [Option.some.injEq, Prod.mk.injEq] at H
    obtain ⟨rfl, rfl⟩ := H
    have hnb18 := NB325_323.out
    have hnc18 := NB323_325.out
    have hcz19_0 : wr.cell? ⟨gb325, 0, none⟩ = some (.int .i64 x326000_1) := (kc BK325.out 0).trans rfl
    have hcz19_1 : wr.cell? ⟨gb325, 1, none⟩ = some (.int .i64 x326001_1) := (kc BK325.out 1).trans rfl
    have hfz19_0 := kf BK325.out 0
    have hfz19_1 := kf BK325.out 1
    have hcz20_0 : wr.cell? ⟨gb323, 0, none⟩ = some (.int .i64 0) := (kc BK323.out 0).trans rfl
    have hcz20_1 : wr.cell? ⟨gb323, 1, none⟩ = some (.int .i64 0) := (kc BK323.out 1).trans rfl
    have hfz20_0 := kf BK323.out 0
    have hfz20_1 := kf BK323.out 1
    go_wp2
    refine bodyPost_ret (results_cell_row rfl _ _ gb323 66 #[.int .i64 x326000_1, .int .i64 x326001_1] (0, 0) _ rfl (by (with_reducible repeat (first | refine Bk2 ?_ _ | refine Bk3 ?_ | refine Bk1 ?_ _)); refine blk_put (cs := #[.int .i64 x326000_1, .int .i64 0]) ?_ 1 _ rfl; (with_reducible repeat (first | refine Bk2 ?_ _ | refine Bk3 ?_ | refine Bk1 ?_ _)); refine blk_put (cs := #[.int .i64 0, .int .i64 0]) ?_ 0 _ rfl; (with_reducible repeat (first | refine Bk2 ?_ _ | refine Bk3 ?_ | refine Bk1 ?_ _)); exact BK323.out) Tryz.underlying66 rfl (by kernel_rfl)) rfl ?_
    exact ⟨zE, by repeat (first | (with_reducible first | exact HB.out | apply Bb1 | apply Bb2 | apply Bb3 | refine Bb4 ?_ GE323.out | refine Bb4 ?_ GE325.out) | exact HB.out)⟩
   rw [if_pos c7] at H
   have c7b0 : decide (x11_1 < (l0.length : Int)) = true := decide_eq_true c7
   clear c7
   by_cases c8 : 0 ≤ x11_1
   rotate_left
   ·rw [if_neg c8] at H
    exact absurd H (by simp)
   rw [if_pos c8] at H
   have c8b0 : decide (0 ≤ x11_1) = true := decide_eq_true c8
   clear c8
   by_cases c9 : x11_1 < (l0.length : Int)
   rotate_left
   ·rw [if_neg c9] at H
    exact absurd H (by simp)
   rw [if_pos c9] at H
   have c9b0 : decide (x11_1 < (l0.length : Int)) = true := decide_eq_true c9
   clear c9
   obtain ⟨ji10, hji10⟩ : ∃ j_ : Int, (mn x326000_1 ((rd_T66 l0 x11_1).f0)) = j_ := ⟨_, rfl⟩
   replace H : (impl_corner.l0 k1 l0 (l0.length : Int) (wrap64 (x11_1 + 1)) ji10 (mn x326001_1 ((rd_T66 l0 x11_1).f1))) = some (r1, r2) := by first | (rw [hji10] at H; exact H) | (simp only [hji10] at H ⊢; exact H)
   have hji10_ : (if ((rd_T66 l0 x11_1).f0) < x326000_1 then ((rd_T66 l0 x11_1).f0) else x326000_1) = ji10 := hji10
   obtain ⟨ji11, hji11⟩ : ∃ j_ : Int, (mn x326001_1 ((rd_T66 l0 x11_1).f1)) = j_ := ⟨_, rfl⟩
   replace H : (impl_corner.l0 k1 l0 (l0.length : Int) (wrap64 (x11_1 + 1)) ji10 ji11) = some (r1, r2) := by first | (rw [hji11] at H; exact H) | (simp only [hji11] at H ⊢; exact H)
   have hji11_ : (if ((rd_T66 l0 x11_1).f1) < x326001_1 then ((rd_T66 l0 x11_1).f1) else x326001_1) = ji11 := hji11
   have H' := am H
   clear H
   have p326 : 0 ≤ (x11_1 : Int) := zD
   have q326 : x11_1 < (l0.length : Int) := zD
   obtain ⟨ad326, e326, hx326_0, hx326_1⟩ := at_T66 HR0.out x11_1 p326 q326
   obtain rfl : ad324 = ad326 := (by injection e326)
   replace hx326_0 := pc HB.out hx326_0
   replace hx326_1 := pc HB.out hx326_1
   replace p326 := eq_true p326
   replace q326 := eq_true q326
   go_wp2_with (first | ((with_reducible refine gate_dst (N := 5) rfl ?_); refine box_event ?hg (N := 5) ?hd (cs := #[.int .i64 0, .int .i64 0]) (t := 66) ?hr ?_; (case hd => rfl); (case hg => rfl); (case hr => first | (go_simp; done) | (go_simp; rfl)); intro gb327 hg w12 hbox hb; have n0_ := am (Bk4 (g := gb323) (o := .cells #[.int .i64 0, .int .i64 0] 66 (0, 0)) (zK BK323) hb); have n1_ := am (Bk4 (g := gb325) (o := .cells #[.int .i64 x326000_1, .int .i64 x326001_1] 66 (0, 0)) (zK BK325) hb); have n2_ := am (Bb6 (by repeat (first | (with_reducible first | exact HB.out | apply Bb1 | apply Bb2 | apply Bb3 | refine Bb4 ?_ GE323.out | refine Bb4 ?_ GE325.out) | exact HB.out)) hb); have n3_ := am (hbox); have n4_ := am ((by rw [hg]; exact (Bb5 (by repeat (first | (with_reducible first | exact HB.out | apply Bb1 | apply Bb2 | apply Bb3 | refine Bb4 ?_ GE323.out | refine Bb4 ?_ GE325.out) | exact HB.out))) : w.heap.size ≤ gb327)); have n5_ := n4_; have n6_ := am ((by rw [hg]; exact nl (Bk5 (g := gb323) (o := .cells #[.int .i64 0, .int .i64 0] 66 (0, 0)) (zK BK323)) : gb323 ≠ gb327)); have n7_ := am ((by rw [hg]; exact ng (Bk5 (g := gb323) (o := .cells #[.int .i64 0, .int .i64 0] 66 (0, 0)) (zK BK323)) : gb327 ≠ gb323)); have n8_ := am ((by rw [hg]; exact nl (Bk5 (g := gb325) (o := .cells #[.int .i64 x326000_1, .int .i64 x326001_1] 66 (0, 0)) (zK BK325)) : gb325 ≠ gb327)); have n9_ := am ((by rw [hg]; exact ng (Bk5 (g := gb325) (o := .cells #[.int .i64 x326000_1, .int .i64 x326001_1] 66 (0, 0)) (zK BK325)) : gb327 ≠ gb325)); clear BK323; clear BK325; clear HB; have BK323 := n0_; have BK325 := n1_; have HB := n2_; have BK327 := n3_; have GW327 := n4_; have GE327 := n5_; have NB323_327 := n6_; have NB327_323 := n7_; have NB325_327 := n8_; have NB327_325 := n9_; clear n0_ n1_ n2_ n3_ n4_ n5_ n6_ n7_ n8_ n9_; clear hb hbox hg; have hnb13 := NB327_323.out; have hnc13 := NB323_327.out; have hnb14 := NB327_325.out; have hnc14 := NB325_327.out; have hcz15_0 : w12.cell? ⟨gb327, 0, none⟩ = some (.int .i64 0) := (kc BK327.out 0).trans rfl; have hcz15_1 : w12.cell? ⟨gb327, 1, none⟩ = some (.int .i64 0) := (kc BK327.out 1).trans rfl; have hfz15_0 := kf BK327.out 0; have hfz15_1 := kf BK327.out 1; have hnb16 := NB325_323.out; have hnc16 := NB323_325.out; have hcz17_0 : w12.cell? ⟨gb325, 0, none⟩ = some (.int .i64 x326000_1) := (kc BK325.out 0).trans rfl; have hcz17_1 : w12.cell? ⟨gb325, 1, none⟩ = some (.int .i64 x326001_1) := (kc BK325.out 1).trans rfl; have hfz17_0 := kf BK325.out 0; have hfz17_1 := kf BK325.out 1))
   go_roundg k1
   case measure => have := HK1.out; omega
   case rel => exact ⟨(wrap64 (x11_1 + 1)), (ji10), (ji11), zS, H', ⟨by have := HK1.out; omega⟩, ⟨by (with_reducible repeat (first | refine Bk2 ?_ _ | refine Bk3 ?_ | refine Bk1 ?_ _)); refine blk_far ?_ NB323_325.out _; (with_reducible repeat (first | refine Bk2 ?_ _ | refine Bk3 ?_ | refine Bk1 ?_ _)); refine blk_far ?_ NB323_325.out _; (with_reducible repeat (first | refine Bk2 ?_ _ | refine Bk3 ?_ | refine Bk1 ?_ _)); refine blk_far ?_ NB323_327.out _; (with_reducible repeat (first | refine Bk2 ?_ _ | refine Bk3 ?_ | refine Bk1 ?_ _)); refine blk_far ?_ NB323_327.out _; (with_reducible repeat (first | refine Bk2 ?_ _ | refine Bk3 ?_ | refine Bk1 ?_ _)); exact BK323.out⟩, ⟨by (with_reducible repeat (first | refine Bk2 ?_ _ | refine Bk3 ?_ | refine Bk1 ?_ _)); refine blk_put (cs := #[.int .i64 ji10, .int .i64 x326001_1]) ?_ 1 _ rfl; (with_reducible repeat (first | refine Bk2 ?_ _ | refine Bk3 ?_ | refine Bk1 ?_ _)); refine blk_put (cs := #[.int .i64 x326000_1, .int .i64 x326001_1]) ?_ 0 _ rfl; (with_reducible repeat (first | refine Bk2 ?_ _ | refine Bk3 ?_ | refine Bk1 ?_ _)); refine blk_far ?_ NB325_327.out _; (with_reducible repeat (first | refine Bk2 ?_ _ | refine Bk3 ?_ | refine Bk1 ?_ _)); refine blk_far ?_ NB325_327.out _; (with_reducible repeat (first | refine Bk2 ?_ _ | refine Bk3 ?_ | refine Bk1 ?_ _)); exact BK325.out⟩, ⟨by repeat (first | (with_reducible first | exact HB.out | apply Bb1 | apply Bb2 | apply Bb3 | refine Bb4 ?_ GE323.out | refine Bb4 ?_ GE325.out | refine Bb4 ?_ GE327.out) | exact HB.out)⟩⟩

/-! ### impl_reach: function 83 -/
def impl_reach.l0 : Nat → List (S66) → Int → Int → Int → Int → Option (Int × Int)
 | 0, _, _, _, _, _ => none
 | k + 1, x9, x10, x11, x331000, x331001 => if x11 < x10 then (if 0 ≤ x11 then (if x11 < (x9.length : Int) then (impl_reach.l0 k x9 x10 (wrap64 (x11 + 1)) (mx x331000 ((rd_T66 x9 x11).f0)) (mx x331001 ((rd_T66 x9 x11).f1))) else (none)) else (none)) else (some (x331000, x331001))
def impl_reach.f (k : Nat) (l0 : List (S66)) : Option (Int × Int) := if 0 < (l0.length : Int) then (impl_reach.l0 k l0 (l0.length : Int) 0 ((rd_T66 l0 0).f0) ((rd_T66 l0 0).f1)) else (none)
theorem impl_reach.mono_l : ∀ k, (∀ y0 y1 y2 y3 y4, LeO (impl_reach.l0 k y0 y1 y2 y3 y4) (impl_reach.l0 (k + 1) y0 y1 y2 y3 y4))
 | 0 => fun _ _ _ _ _ r h => by simp [impl_reach.l0] at h
 | k + 1 => by
  have ih0 := impl_reach.mono_l k
  ·intro y0 y1 y2 y3 y4
   unfold impl_reach.l0
   with_reducible repeat' first | exact ih0 _ _ _ _ _ | exact LeO.refl _ | exact LeO.none _ | refine LeO.ite ?_ ?_ | refine LeO.bind ?_ (fun _ => ?_)
theorem impl_reach.mono : ∀ a0 k, LeO (impl_reach.f k a0) (impl_reach.f (k + 1) a0) := by
 intro a0 k
 have ih0 := impl_reach.mono_l k
 unfold impl_reach.f
 with_reducible repeat' first | exact ih0 _ _ _ _ _ | exact LeO.refl _ | exact LeO.none _ | refine LeO.ite ?_ ?_ | refine LeO.bind ?_ (fun _ => ?_)
set_option maxHeartbeats 8000000 in
set_option maxRecDepth 100000 in
theorem impl_reach.calls (k : Nat) (A0 : Option Addr) (c0 : Nat) (l0 : List (S66)) (r1 : Int) (r2 : Int) (w : World) (hr0 : Kd.C k66 w A0 l0.length l0) (hc0 : l0.length ≤ c0) (h : impl_reach.f k l0 = some (r1, r2)) :
  Calls Tryz.prog 83 #[.slice A0 l0.length c0] w fun e w' => e = .returned (.agg #[.int .i64 r1, .int .i64 r2]) ∧ Below w.heap.size w w' := by
 have hu66 := Tryz.underlying66
 have HR0 := am hr0
 have HC0 := am hc0
 clear hr0 hc0
 have HB := am (Below.refl w.heap.size w)
 have H : (if 0 < (l0.length : Int) then (impl_reach.l0 k l0 (l0.length : Int) 0 ((rd_T66 l0 0).f0) ((rd_T66 l0 0).f1)) else (none)) = some (r1, r2) := h
 clear h
 by_cases c2 : 0 < (l0.length : Int)
 rotate_left
 ·rw [if_neg c2] at H
  exact absurd H (by simp)
 rw [if_pos c2] at H
 have c2b0 : decide (0 < (l0.length : Int)) = true := decide_eq_true c2
 have c2b1 : decide (0 < l0.length) = true := decide_eq_true (by omega)
 clear c2
 have H' := am H
 clear H
 go_enter Tryz.func83, Tryz.ntmps83
 go_wp2_with (first | ((with_reducible refine gate_dst (N := 2) rfl ?_); refine box_event ?hg (N := 2) ?hd (cs := #[.int .i64 0, .int .i64 0]) (t := 66) ?hr ?_; (case hd => rfl); (case hg => rfl); (case hr => first | (go_simp; done) | (go_simp; rfl)); intro gb328 hg w3 hbox hb; have n0_ := am (Bb6 zB hb); have n1_ := am (hbox); have n2_ := am ((by rw [hg]; exact (Bb5 zB) : w.heap.size ≤ gb328)); have n3_ := n2_; clear HB; have HB := n0_; have BK328 := n1_; have GW328 := n2_; have GE328 := n3_; clear n0_ n1_ n2_ n3_; clear hb hbox hg; have p329 : 0 ≤ (0 : Int) := (by omega); have q329 : 0 < (l0.length : Int) := zD; obtain ⟨ad329, e329, hx329_0, hx329_1⟩ := at_T66 HR0.out 0 p329 q329; cases e329; have qi329 : (0 < l0.length) = True := eq_true (by omega); (try rw [show ((0 : Int)).toNat = 0 from rfl] at hx329_0); (try rw [show 0 * 2 = 0 from rfl] at hx329_0); (try rw [Addr.add_zero'] at hx329_0); (try rw [show ((0 : Int)).toNat = 0 from rfl] at hx329_1); (try rw [show 0 * 2 = 0 from rfl] at hx329_1); (try rw [Addr.add_zero'] at hx329_1); replace hx329_0 := pc HB.out hx329_0; replace hx329_1 := pc HB.out hx329_1; replace p329 := eq_true p329; replace q329 := eq_true q329) | ((with_reducible refine gate_dst (N := 3) rfl ?_); refine box_event ?hg (N := 3) ?hd (cs := #[.int .i64 0, .int .i64 0]) (t := 66) ?hr ?_; (case hd => rfl); (case hg => rfl); (case hr => first | (go_simp; done) | (go_simp; rfl)); intro gb330 hg w4 hbox hb; have n0_ := am (Bk4 (g := gb328) (o := .cells #[.int .i64 0, .int .i64 0] 66 (0, 0)) (zK BK328) hb); have n1_ := am (Bb6 (by repeat (first | (with_reducible first | exact HB.out | apply Bb1 | apply Bb2 | apply Bb3 | refine Bb4 ?_ GE328.out) | exact HB.out)) hb); have n2_ := am (hbox); have n3_ := am ((by rw [hg]; exact (Bb5 (by repeat (first | (with_reducible first | exact HB.out | apply Bb1 | apply Bb2 | apply Bb3 | refine Bb4 ?_ GE328.out) | exact HB.out))) : w.heap.size ≤ gb330)); have n4_ := n3_; have n5_ := am ((by rw [hg]; exact nl (Bk5 (g := gb328) (o := .cells #[.int .i64 0, .int .i64 0] 66 (0, 0)) (zK BK328)) : gb328 ≠ gb330)); have n6_ := am ((by rw [hg]; exact ng (Bk5 (g := gb328) (o := .cells #[.int .i64 0, .int .i64 0] 66 (0, 0)) (zK BK328)) : gb330 ≠ gb328)); clear BK328; clear HB; have BK328 := n0_; have HB := n1_; have BK330 := n2_; have GW330 := n3_; have GE330 := n4_; have NB328_330 := n5_; have NB330_328 := n6_; clear n0_ n1_ n2_ n3_ n4_ n5_ n6_; clear hb hbox hg; have hnb5 := NB330_328.out; have hnc5 := NB328_330.out; have hcz6_0 : w4.cell? ⟨gb330, 0, none⟩ = some (.int .i64 0) := (kc BK330.out 0).trans rfl; have hcz6_1 : w4.cell? ⟨gb330, 1, none⟩ = some (.int .i64 0) := (kc BK330.out 1).trans rfl; have hfz6_0 := kf BK330.out 0; have hfz6_1 := kf BK330.out 1))
 go_loopg [11] k (fun kq v11 w' => ∃ (x11_1 : Int) (x331000_1 : Int) (x331001_1 : Int), v11 = .int .i64 x11_1 ∧ Aside0 (impl_reach.l0 kq l0 (l0.length : Int) x11_1 x331000_1 x331001_1 = some (r1, r2)) ∧ Aside0 (kq ≤ k) ∧ Aside0 (w'.heap[gb328]? = some (.cells #[.int .i64 0, .int .i64 0] 66 (0, 0))) ∧ Aside0 (w'.heap[gb330]? = some (.cells #[.int .i64 x331000_1, .int .i64 x331001_1] 66 (0, 0))) ∧ Aside0 (Below w.heap.size w w'))
 case atStart => exact ⟨(0), ((rd_T66 l0 0).f0), ((rd_T66 l0 0).f1), zS, H', ⟨Nat.le_refl _⟩, ⟨by (with_reducible repeat (first | refine Bk2 ?_ _ | refine Bk3 ?_ | refine Bk1 ?_ _)); refine blk_far ?_ NB328_330.out _; (with_reducible repeat (first | refine Bk2 ?_ _ | refine Bk3 ?_ | refine Bk1 ?_ _)); refine blk_far ?_ NB328_330.out _; (with_reducible repeat (first | refine Bk2 ?_ _ | refine Bk3 ?_ | refine Bk1 ?_ _)); exact BK328.out⟩, ⟨by (with_reducible repeat (first | refine Bk2 ?_ _ | refine Bk3 ?_ | refine Bk1 ?_ _)); refine blk_put (cs := #[.int .i64 ((rd_T66 l0 0).f0), .int .i64 0]) ?_ 1 _ rfl; (with_reducible repeat (first | refine Bk2 ?_ _ | refine Bk3 ?_ | refine Bk1 ?_ _)); refine blk_put (cs := #[.int .i64 0, .int .i64 0]) ?_ 0 _ rfl; (with_reducible repeat (first | refine Bk2 ?_ _ | refine Bk3 ?_ | refine Bk1 ?_ _)); exact BK330.out⟩, ⟨by repeat (first | (with_reducible first | exact HB.out | apply Bb1 | apply Bb2 | apply Bb3 | refine Bb4 ?_ GE328.out | refine Bb4 ?_ GE330.out) | exact HB.out)⟩⟩
 case round =>
  clear H'
  try clear c2
  try clear c2b0
  try clear c2b1
  try clear p2
  try clear p3
  try clear q3
  try clear hx3
  try clear qi3
  try clear c5
  try clear hcz6_0
  try clear hcz6_1
  try clear hfz6_0
  try clear hfz6_1
  try clear hx329_0
  try clear hx329_1
  try clear p329
  try clear q329
  obtain ⟨x11_1, x331000_1, x331001_1, rfl, HA, HK1, BK328, BK330, HB⟩ := hrel
  cases gk with
  | zero => exact absurd HA.out (by simp [impl_reach.l0])
  | succ k1 =>
   have H := HA.out
   clear HA
   simp only [impl_reach.l0] at H
   by_cases c7 : x11_1 < (l0.length : Int)
   rotate_left
   ·rw [if_neg c7] at H
    have c7b0 : decide (x11_1 < (l0.length : Int)) = false := decide_eq_false c7
    clear c7
    simp only [Option.some.injEq, Prod.mk.injEq] at H
    obtain ⟨rfl, rfl⟩ := H
    have hnb18 := NB330_328.out
    have hnc18 := NB328_330.out
    have hcz19_0 : wr.cell? ⟨gb330, 0, none⟩ = some (.int .i64 x331000_1) := (kc BK330.out 0).trans rfl
    have hcz19_1 : wr.cell? ⟨gb330, 1, none⟩ = some (.int .i64 x331001_1) := (kc BK330.out 1).trans rfl
    have hfz19_0 := kf BK330.out 0
    have hfz19_1 := kf BK330.out 1
    have hcz20_0 : wr.cell? ⟨gb328, 0, none⟩ = some (.int .i64 0) := (kc BK328.out 0).trans rfl
    have hcz20_1 : wr.cell? ⟨gb328, 1, none⟩ = some (.int .i64 0) := (kc BK328.out 1).trans rfl
    have hfz20_0 := kf BK328.out 0
    have hfz20_1 := kf BK328.out 1
    go_wp2
    refine bodyPost_ret (results_cell_row rfl _ _ gb328 66 #[.int .i64 x331000_1, .int .i64 x331001_1] (0, 0) _ rfl (by (with_reducible repeat (first | refine Bk2 ?_ _ | refine Bk3 ?_ | refine Bk1 ?_ _)); refine blk_put (cs := #[.int .i64 x331000_1, .int .i64 0]) ?_ 1 _ rfl; (with_reducible repeat (first | refine Bk2 ?_ _ | refine Bk3 ?_ | refine Bk1 ?_ _)); refine blk_put (cs := #[.int .i64 0, .int .i64 0]) ?_ 0 _ rfl; (with_reducible repeat (first | refine Bk2 ?_ _ | refine Bk3 ?_ | refine Bk1 ?_ _)); exact BK328.out) Tryz.underlying66 rfl (by kernel_rfl)) rfl ?_
    exact ⟨zE, by repeat (first | (with_reducible first | exact HB.out | apply Bb1 | apply Bb2 | apply Bb3 | refine Bb4 ?_ GE328.out | refine Bb4 ?_ GE330.out) | exact HB.out)⟩
   rw [if_pos c7] at H
   have c7b0 : decide (x11_1 < (l0.length : Int)) = true := decide_eq_true c7
   clear c7
   by_cases c8 : 0 ≤ x11_1
   rotate_left
   ·rw [if_neg c8] at H
    exact absurd H (by simp)
   rw [if_pos c8] at H
   have c8b0 : decide (0 ≤ x11_1) = true := decide_eq_true c8
   clear c8
   by_cases c9 : x11_1 < (l0.length : Int)
   rotate_left
   ·rw [if_neg c9] at H
    exact absurd H (by simp)
   rw [if_pos c9] at H
   have c9b0 : decide (x11_1 < (l0.length : Int)) = true := decide_eq_true c9
   clear c9
   obtain ⟨ji10, hji10⟩ : ∃ j_ : Int, (mx x331000_1 ((rd_T66 l0 x11_1).f0)) = j_ := ⟨_, rfl⟩
   replace H : (impl_reach.l0 k1 l0 (l0.length : Int) (wrap64 (x11_1 + 1)) ji10 (mx x331001_1 ((rd_T66 l0 x11_1).f1))) = some (r1, r2) := by first | (rw [hji10] at H; exact H) | (simp only [hji10] at H ⊢; exact H)
   have hji10_ : (if x331000_1 < ((rd_T66 l0 x11_1).f0) then ((rd_T66 l0 x11_1).f0) else x331000_1) = ji10 := hji10
   obtain ⟨ji11, hji11⟩ : ∃ j_ : Int, (mx x331001_1 ((rd_T66 l0 x11_1).f1)) = j_ := ⟨_, rfl⟩
   replace H : (impl_reach.l0 k1 l0 (l0.length : Int) (wrap64 (x11_1 + 1)) ji10 ji11) = some (r1, r2) := by first | (rw [hji11] at H; exact H) | (simp only [hji11] at H ⊢; exact H)
   have hji11_ : (if x331001_1 < ((rd_T66 l0 x11_1).f1) then ((rd_T66 l0 x11_1).f1) else x331001_1) = ji11 := hji11
   have H' := am H
   clear H
   have p331 : 0 ≤ (x11_1 : Int) := zD
   have q331 : x11_1 < (l0.length : Int) := zD
   obtain ⟨ad331, e331, hx331_0, hx331_1⟩ := at_T66 HR0.out x11_1 p331 q331
   obtain rfl : ad329 = ad331 := (by injection e331)
   replace hx331_0 := pc HB.out hx331_0
   replace hx331_1 := pc HB.out hx331_1
   replace p331 := eq_true p331
   replace q331 := eq_true q331
   go_wp2_with (first | ((with_reducible refine gate_dst (N := 5) rfl ?_); refine box_event ?hg (N := 5) ?hd (cs := #[.int .i64 0, .int .i64 0]) (t := 66) ?hr ?_; (case hd => rfl); (case hg => rfl); (case hr => first | (go_simp; done) | (go_simp; rfl)); intro gb332 hg w12 hbox hb; have n0_ := am (Bk4 (g := gb328) (o := .cells #[.int .i64 0, .int .i64 0] 66 (0, 0)) (zK BK328) hb); have n1_ := am (Bk4 (g := gb330) (o := .cells #[.int .i64 x331000_1, .int .i64 x331001_1] 66 (0, 0)) (zK BK330) hb); have n2_ := am (Bb6 (by repeat (first | (with_reducible first | exact HB.out | apply Bb1 | apply Bb2 | apply Bb3 | refine Bb4 ?_ GE328.out | refine Bb4 ?_ GE330.out) | exact HB.out)) hb); have n3_ := am (hbox); have n4_ := am ((by rw [hg]; exact (Bb5 (by repeat (first | (with_reducible first | exact HB.out | apply Bb1 | apply Bb2 | apply Bb3 | refine Bb4 ?_ GE328.out | refine Bb4 ?_ GE330.out) | exact HB.out))) : w.heap.size ≤ gb332)); have n5_ := n4_; have n6_ := am ((by rw [hg]; exact nl (Bk5 (g := gb328) (o := .cells #[.int .i64 0, .int .i64 0] 66 (0, 0)) (zK BK328)) : gb328 ≠ gb332)); have n7_ := am ((by rw [hg]; exact ng (Bk5 (g := gb328) (o := .cells #[.int .i64 0, .int .i64 0] 66 (0, 0)) (zK BK328)) : gb332 ≠ gb328)); have n8_ := am ((by rw [hg]; exact nl (Bk5 (g := gb330) (o := .cells #[.int .i64 x331000_1, .int .i64 x331001_1] 66 (0, 0)) (zK BK330)) : gb330 ≠ gb332)); have n9_ := am ((by rw [hg]; exact ng (Bk5 (g := gb330) (o := .cells #[.int .i64 x331000_1, .int .i64 x331001_1] 66 (0, 0)) (zK BK330)) : gb332 ≠ gb330)); clear BK328; clear BK330; clear HB; have BK328 := n0_; have BK330 := n1_; have HB := n2_; have BK332 := n3_; have GW332 := n4_; have GE332 := n5_; have NB328_332 := n6_; have NB332_328 := n7_; have NB330_332 := n8_; have NB332_330 := n9_; clear n0_ n1_ n2_ n3_ n4_ n5_ n6_ n7_ n8_ n9_; clear hb hbox hg; have hnb13 := NB332_328.out; have hnc13 := NB328_332.out; have hnb14 := NB332_330.out; have hnc14 := NB330_332.out; have hcz15_0 : w12.cell? ⟨gb332, 0, none⟩ = some (.int .i64 0) := (kc BK332.out 0).trans rfl; have hcz15_1 : w12.cell? ⟨gb332, 1, none⟩ = some (.int .i64 0) := (kc BK332.out 1).trans rfl; have hfz15_0 := kf BK332.out 0; have hfz15_1 := kf BK332.out 1; have hnb16 := NB330_328.out; have hnc16 := NB328_330.out; have hcz17_0 : w12.cell? ⟨gb330, 0, none⟩ = some (.int .i64 x331000_1) := (kc BK330.out 0).trans rfl; have hcz17_1 : w12.cell? ⟨gb330, 1, none⟩ = some (.int .i64 x331001_1) := (kc BK330.out 1).trans rfl; have hfz17_0 := kf BK330.out 0; have hfz17_1 := kf BK330.out 1))
   go_roundg k1
   case measure => have := HK1.out; omega
   case rel => exact ⟨(wrap64 (x11_1 + 1)), (ji10), (ji11), zS, H', ⟨by have := HK1.out; omega⟩, ⟨by (with_reducible repeat (first | refine Bk2 ?_ _ | refine Bk3 ?_ | refine Bk1 ?_ _)); refine blk_far ?_ NB328_330.out _; (with_reducible repeat (first | refine Bk2 ?_ _ | refine Bk3 ?_ | refine Bk1 ?_ _)); refine blk_far ?_ NB328_330.out _; (with_reducible repeat (first | refine Bk2 ?_ _ | refine Bk3 ?_ | refine Bk1 ?_ _)); refine blk_far ?_ NB328_332.out _; (with_reducible repeat (first | refine Bk2 ?_ _ | refine Bk3 ?_ | refine Bk1 ?_ _)); refine blk_far ?_ NB328_332.out _; (with_reducible repeat (first | refine Bk2 ?_ _ | refine Bk3 ?_ | refine Bk1 ?_ _)); exact BK328.out⟩, ⟨by (with_reducible repeat (first | refine Bk2 ?_ _ | refine Bk3 ?_ | refine Bk1 ?_ _)); refine blk_put (cs := #[.int .i64 ji10, .int .i64 x331001_1]) ?_ 1 _ rfl; (with_reducible repeat (first | refine Bk2 ?_ _ | refine Bk3 ?_ | refine Bk1 ?_ _)); refine blk_put (cs := #[.int .i64 x331000_1, .int .i64 x331001_1]) ?_ 0 _ rfl; (with_reducible repeat (first | refine Bk2 ?_ _ | refine Bk3 ?_ | refine Bk1 ?_ _)); refine blk_far ?_ NB330_332.out _; (with_reducible repeat (first | refine Bk2 ?_ _ | refine Bk3 ?_ | refine Bk1 ?_ _)); refine blk_far ?_ NB330_332.out _; (with_reducible repeat (first | refine Bk2 ?_ _ | refine Bk3 ?_ | refine Bk1 ?_ _)); exact BK330.out⟩, ⟨by repeat (first | (with_reducible first | exact HB.out | apply Bb1 | apply Bb2 | apply Bb3 | refine Bb4 ?_ GE328.out | refine Bb4 ?_ GE330.out | refine Bb4 ?_ GE332.out) | exact HB.out)⟩⟩

/-! ### impl_IsRegion: function 65 -/
def impl_IsRegion.f (k : Nat) (l0 : List (S66)) : Option (Bool) := (impl_IsShape.f k l0).bind fun t333 => (if t333 = true then ((impl_corner.f k l0).bind fun bt334 => (if (!(bt334.1 == 0) || (!(bt334.2 == 0))) = true then (some false) else ((impl_reach.f k l0).bind fun bt336 => (if bt336.1 < 20 then (some (decide (bt336.2 < 20))) else (some false))))) else (some false))
theorem impl_IsRegion.mono : ∀ a0 k, LeO (impl_IsRegion.f k a0) (impl_IsRegion.f (k + 1) a0) := by
 intro a0 k
 unfold impl_IsRegion.f
 with_reducible repeat' first | exact impl_IsShape.mono _ _ | exact impl_corner.mono _ _ | exact impl_reach.mono _ _ | exact LeO.refl _ | exact LeO.none _ | refine LeO.ite ?_ ?_ | refine LeO.bind ?_ (fun _ => ?_)
set_option maxHeartbeats 8000000 in
set_option maxRecDepth 100000 in
theorem impl_IsRegion.calls (k : Nat) (A0 : Option Addr) (c0 : Nat) (l0 : List (S66)) (r : Bool) (w : World) (hr0 : Kd.C k66 w A0 l0.length l0) (hc0 : l0.length ≤ c0) (h : impl_IsRegion.f k l0 = some r) :
  Calls Tryz.prog 65 #[.slice A0 l0.length c0] w fun e w' => e = .returned (.bool r) ∧ Below w.heap.size w w' := by
 have hu66 := Tryz.underlying66
 have HR0 := am hr0
 have HC0 := am hc0
 clear hr0 hc0
 have HB := am (Below.refl w.heap.size w)
 have H : ((impl_IsShape.f k l0).bind fun t333 => (if t333 = true then ((impl_corner.f k l0).bind fun bt334 => (if (!(bt334.1 == 0) || (!(bt334.2 == 0))) = true then (some false) else ((impl_reach.f k l0).bind fun bt336 => (if bt336.1 < 20 then (some (decide (bt336.2 < 20))) else (some false))))) else (some false))) = some r := h
 clear h
 replace H := ob H
 obtain ⟨t333, A20, H⟩ := H
 (try dsimp only at H)
 have A2 := am A20
 clear A20
 by_cases c3 : t333 = true
 rotate_left
 ·replace c3 := ef c3
  subst c3
  have H1 : (some false) = some r := by first | (rw [if_neg (show ¬ (false = true) by decide)] at H; exact H) | rfl
  clear H
  have H := H1
  clear H1
  obtain rfl := oi H
  go_enter Tryz.func65, Tryz.ntmps65
  go_wp2_with (first | ((with_reducible refine gate_callee (f := 81) rfl ?_); refine goesL_ (some 5) rfl rfl Tryz.func81 (by kernel_rfl) rfl #[.slice A0 l0.length c0] rfl zL ?_; (with_reducible refine (impl_IsShape.calls k _ _ l0 false _ ?side1 ?side2 A2.out).mono ?_); (case side1 => repeat (first | exact HR0.out | (with_reducible refine Kd.C_alloc ?_ _) | (with_reducible refine Kd.C_drewN ?_ _) | (with_reducible refine Kd.C_drew ?_))); (case side2 => exact HC0.out); rintro e w20 ⟨rfl, hb⟩; refine ⟨_, rfl, ?_⟩; have n0_ := am (Bb6 zB hb); clear HB; have HB := n0_; clear n0_; (try clear hb); (try clear hb2); (try clear hk); (try clear hi)))
  go_ret
  exact ⟨zE, zB⟩
 subst c3
 have H1 : ((impl_corner.f k l0).bind fun bt334 => (if (!(bt334.1 == 0) || (!(bt334.2 == 0))) = true then (some false) else ((impl_reach.f k l0).bind fun bt336 => (if bt336.1 < 20 then (some (decide (bt336.2 < 20))) else (some false))))) = some r := by first | (rw [if_pos rfl] at H; exact H) | rfl
 clear H
 have H := H1
 clear H1
 replace H := ob H
 obtain ⟨⟨t334, t335⟩, A40, H⟩ := H
 (try dsimp only at H)
 have A4 := am A40
 clear A40
 by_cases c5 : (!(t334 == 0) || (!(t335 == 0))) = true
 ·rw [if_pos c5] at H
  have c5b0 : (!(t334 == 0) || (!(t335 == 0))) = true := c5
  clear c5
  obtain rfl := oi H
  go_enter Tryz.func65, Tryz.ntmps65
  go_wp2_with (first | ((with_reducible refine gate_callee (f := 81) rfl ?_); refine goesL_ (some 5) rfl rfl Tryz.func81 (by kernel_rfl) rfl #[.slice A0 l0.length c0] rfl zL ?_; (with_reducible refine (impl_IsShape.calls k _ _ l0 true _ ?side1 ?side2 A2.out).mono ?_); (case side1 => repeat (first | exact HR0.out | (with_reducible refine Kd.C_alloc ?_ _) | (with_reducible refine Kd.C_drewN ?_ _) | (with_reducible refine Kd.C_drew ?_))); (case side2 => exact HC0.out); rintro e w6 ⟨rfl, hb⟩; refine ⟨_, rfl, ?_⟩; have n0_ := am (Bb6 zB hb); clear HB; have HB := n0_; clear n0_; (try clear hb); (try clear hb2); (try clear hk); (try clear hi)) | (go_at_call 82; (with_reducible refine (impl_corner.calls k _ _ l0 t334 t335 _ ?side1 ?side2 A4.out).mono ?_); (case side1 => repeat (first | exact (Kd.C_below HR0.out HB.out) | (with_reducible refine Kd.C_alloc ?_ _) | (with_reducible refine Kd.C_drewN ?_ _) | (with_reducible refine Kd.C_drew ?_))); (case side2 => exact HC0.out); rintro e w7 ⟨rfl, hb⟩; have n0_ := am (Bb6 zB hb); clear HB; have HB := n0_; clear n0_; (try clear hb); (try clear hb2); (try clear hk); (try clear hi)))
  go_ret
  exact ⟨zE, zB⟩
 rw [if_neg c5] at H
 have c5b0 : (!(t334 == 0) || (!(t335 == 0))) = false := by simpa using c5
 clear c5
 replace H := ob H
 obtain ⟨⟨t336, t337⟩, A80, H⟩ := H
 (try dsimp only at H)
 have A8 := am A80
 clear A80
 by_cases c9 : t336 < 20
 ·rw [if_pos c9] at H
  have c9b0 : decide (t336 < 20) = true := decide_eq_true c9
  clear c9
  obtain rfl := oi H
  go_enter Tryz.func65, Tryz.ntmps65
  go_wp2_with (first | ((with_reducible refine gate_callee (f := 81) rfl ?_); refine goesL_ (some 5) rfl rfl Tryz.func81 (by kernel_rfl) rfl #[.slice A0 l0.length c0] rfl zL ?_; (with_reducible refine (impl_IsShape.calls k _ _ l0 true _ ?side1 ?side2 A2.out).mono ?_); (case side1 => repeat (first | exact HR0.out | (with_reducible refine Kd.C_alloc ?_ _) | (with_reducible refine Kd.C_drewN ?_ _) | (with_reducible refine Kd.C_drew ?_))); (case side2 => exact HC0.out); rintro e w10 ⟨rfl, hb⟩; refine ⟨_, rfl, ?_⟩; have n0_ := am (Bb6 zB hb); clear HB; have HB := n0_; clear n0_; (try clear hb); (try clear hb2); (try clear hk); (try clear hi)) | (go_at_call 82; (with_reducible refine (impl_corner.calls k _ _ l0 t334 t335 _ ?side1 ?side2 A4.out).mono ?_); (case side1 => repeat (first | exact (Kd.C_below HR0.out HB.out) | (with_reducible refine Kd.C_alloc ?_ _) | (with_reducible refine Kd.C_drewN ?_ _) | (with_reducible refine Kd.C_drew ?_))); (case side2 => exact HC0.out); rintro e w11 ⟨rfl, hb⟩; have n0_ := am (Bb6 zB hb); clear HB; have HB := n0_; clear n0_; (try clear hb); (try clear hb2); (try clear hk); (try clear hi)) | ((with_reducible refine gate_callee (f := 83) rfl ?_); refine goesL_ (some 14) rfl rfl Tryz.func83 (by kernel_rfl) rfl #[.slice A0 l0.length c0] rfl zL ?_; (with_reducible refine (impl_reach.calls k _ _ l0 t336 t337 _ ?side1 ?side2 A8.out).mono ?_); (case side1 => repeat (first | exact (Kd.C_below HR0.out HB.out) | (with_reducible refine Kd.C_alloc ?_ _) | (with_reducible refine Kd.C_drewN ?_ _) | (with_reducible refine Kd.C_drew ?_))); (case side2 => exact HC0.out); rintro e w12 ⟨rfl, hb⟩; refine ⟨_, rfl, ?_⟩; have n0_ := am (Bb6 zB hb); clear HB; have HB := n0_; clear n0_; (try clear hb); (try clear hb2); (try clear hk); (try clear hi)) | ((with_reducible refine gate_dst (N := 3) rfl ?_); refine box_event ?hg (N := 3) ?hd (cs := #[.int .i64 0, .int .i64 0]) (t := 66) ?hr ?_; (case hd => rfl); (case hg => rfl); (case hr => first | (go_simp; done) | (go_simp; rfl)); intro gb338 hg w13 hbox hb; have n0_ := am (Bb6 zB hb); have n1_ := am (hbox); have n2_ := am ((by rw [hg]; exact (Bb5 zB) : w.heap.size ≤ gb338)); have n3_ := n2_; clear HB; have HB := n0_; have BK338 := n1_; have GW338 := n2_; have GE338 := n3_; clear n0_ n1_ n2_ n3_; clear hb hbox hg; have hcz14_0 : w13.cell? ⟨gb338, 0, none⟩ = some (.int .i64 0) := (kc BK338.out 0).trans rfl; have hcz14_1 : w13.cell? ⟨gb338, 1, none⟩ = some (.int .i64 0) := (kc BK338.out 1).trans rfl; have hfz14_0 := kf BK338.out 0; have hfz14_1 := kf BK338.out 1))
  go_ret
  exact ⟨zE, by repeat (first | (with_reducible first | exact HB.out | apply Bb1 | apply Bb2 | apply Bb3 | refine Bb4 ?_ GE338.out) | exact HB.out)⟩
 rw [if_neg c9] at H
 have c9b0 : decide (t336 < 20) = false := decide_eq_false c9
 clear c9
 obtain rfl := oi H
 go_enter Tryz.func65, Tryz.ntmps65
 go_wp2_with (first | ((with_reducible refine gate_callee (f := 81) rfl ?_); refine goesL_ (some 5) rfl rfl Tryz.func81 (by kernel_rfl) rfl #[.slice A0 l0.length c0] rfl zL ?_; (with_reducible refine (impl_IsShape.calls k _ _ l0 true _ ?side1 ?side2 A2.out).mono ?_); (case side1 => repeat (first | exact HR0.out | (with_reducible refine Kd.C_alloc ?_ _) | (with_reducible refine Kd.C_drewN ?_ _) | (with_reducible refine Kd.C_drew ?_))); (case side2 => exact HC0.out); rintro e w15 ⟨rfl, hb⟩; refine ⟨_, rfl, ?_⟩; have n0_ := am (Bb6 zB hb); clear HB; have HB := n0_; clear n0_; (try clear hb); (try clear hb2); (try clear hk); (try clear hi)) | (go_at_call 82; (with_reducible refine (impl_corner.calls k _ _ l0 t334 t335 _ ?side1 ?side2 A4.out).mono ?_); (case side1 => repeat (first | exact (Kd.C_below HR0.out HB.out) | (with_reducible refine Kd.C_alloc ?_ _) | (with_reducible refine Kd.C_drewN ?_ _) | (with_reducible refine Kd.C_drew ?_))); (case side2 => exact HC0.out); rintro e w16 ⟨rfl, hb⟩; have n0_ := am (Bb6 zB hb); clear HB; have HB := n0_; clear n0_; (try clear hb); (try clear hb2); (try clear hk); (try clear hi)) | ((with_reducible refine gate_callee (f := 83) rfl ?_); refine goesL_ (some 14) rfl rfl Tryz.func83 (by kernel_rfl) rfl #[.slice A0 l0.length c0] rfl zL ?_; (with_reducible refine (impl_reach.calls k _ _ l0 t336 t337 _ ?side1 ?side2 A8.out).mono ?_); (case side1 => repeat (first | exact (Kd.C_below HR0.out HB.out) | (with_reducible refine Kd.C_alloc ?_ _) | (with_reducible refine Kd.C_drewN ?_ _) | (with_reducible refine Kd.C_drew ?_))); (case side2 => exact HC0.out); rintro e w17 ⟨rfl, hb⟩; refine ⟨_, rfl, ?_⟩; have n0_ := am (Bb6 zB hb); clear HB; have HB := n0_; clear n0_; (try clear hb); (try clear hb2); (try clear hk); (try clear hi)) | ((with_reducible refine gate_dst (N := 3) rfl ?_); refine box_event ?hg (N := 3) ?hd (cs := #[.int .i64 0, .int .i64 0]) (t := 66) ?hr ?_; (case hd => rfl); (case hg => rfl); (case hr => first | (go_simp; done) | (go_simp; rfl)); intro gb338 hg w18 hbox hb; have n0_ := am (Bb6 zB hb); have n1_ := am (hbox); have n2_ := am ((by rw [hg]; exact (Bb5 zB) : w.heap.size ≤ gb338)); have n3_ := n2_; clear HB; have HB := n0_; have BK338 := n1_; have GW338 := n2_; have GE338 := n3_; clear n0_ n1_ n2_ n3_; clear hb hbox hg; have hcz19_0 : w18.cell? ⟨gb338, 0, none⟩ = some (.int .i64 0) := (kc BK338.out 0).trans rfl; have hcz19_1 : w18.cell? ⟨gb338, 1, none⟩ = some (.int .i64 0) := (kc BK338.out 1).trans rfl; have hfz19_0 := kf BK338.out 0; have hfz19_1 := kf BK338.out 1))
 go_ret
 exact ⟨zE, by repeat (first | (with_reducible first | exact HB.out | apply Bb1 | apply Bb2 | apply Bb3 | refine Bb4 ?_ GE338.out) | exact HB.out)⟩

/-! ### impl_around: function 67 -/
def impl_around.f (a0_0 : Int) (a0_1 : Int) : Option ((List (S66))) := some (([(⟨a0_0, wrap64 (a0_1 - 1)⟩ : S66), (⟨wrap64 (a0_0 - 1), a0_1⟩ : S66), (⟨wrap64 (a0_0 + 1), a0_1⟩ : S66), (⟨a0_0, wrap64 (a0_1 + 1)⟩ : S66)] : List (S66)))
set_option maxHeartbeats 8000000 in
set_option maxRecDepth 100000 in
theorem impl_around.calls (a0_0 : Int) (a0_1 : Int) (r : List (S66)) (w : World) (h : impl_around.f a0_0 a0_1 = some r) :
  Calls Tryz.prog 67 #[.agg #[.int .i64 a0_0, .int .i64 a0_1]] w fun e w' => ∃ v0_ : Value, e = .returned (v0_) ∧ Kd.R k66 66 w' w.heap.size (fun _ => True) v0_ r ∧ Below w.heap.size w w' := by
 have hu66 := Tryz.underlying66
 have HB := am (Below.refl w.heap.size w)
 have H : (some (([(⟨a0_0, wrap64 (a0_1 - 1)⟩ : S66), (⟨wrap64 (a0_0 - 1), a0_1⟩ : S66), (⟨wrap64 (a0_0 + 1), a0_1⟩ : S66), (⟨a0_0, wrap64 (a0_1 + 1)⟩ : S66)] : List (S66)))) = some r := h
 clear h
 obtain ⟨y340, hy340⟩ : ∃ y_ : List (S66), y_ = (([(⟨a0_0, wrap64 (a0_1 - 1)⟩ : S66), (⟨wrap64 (a0_0 - 1), a0_1⟩ : S66), (⟨wrap64 (a0_0 + 1), a0_1⟩ : S66), (⟨a0_0, wrap64 (a0_1 + 1)⟩ : S66)] : List (S66))) := ⟨_, rfl⟩
 replace H : (some y340) = some r := by first | (rw [hy340]; with_reducible exact H) | (have H2_ := (Option.bind_some _ _).symm.trans H; rw [hy340]; with_reducible exact H2_) | (have H2_ := (Option.bind_some _ _).symm.trans H; with_reducible exact H2_) | with_reducible exact H | (rw [hy340]; exact H) | exact H
 have Ny340 := am hy340
 clear hy340
 obtain rfl := oi H
 go_enter Tryz.func67, Tryz.ntmps67
 go_wp2_with (first | ((with_reducible refine gate_dst (N := 1) rfl ?_); refine box_event ?hg (N := 1) ?hd (cs := #[.int .i64 a0_0, .int .i64 a0_1]) (t := 66) ?hr ?_; (case hd => rfl); (case hg => rfl); (case hr => first | (go_simp; done) | (go_simp; rfl)); intro gb339 hg w2 hbox hb; have n0_ := am (Bb6 zB hb); have n1_ := am (hbox); have n2_ := am ((by rw [hg]; exact (Bb5 zB) : w.heap.size ≤ gb339)); have n3_ := n2_; clear HB; have HB := n0_; have BK339 := n1_; have GW339 := n2_; have GE339 := n3_; clear n0_ n1_ n2_ n3_; clear hb hbox hg; have hcz3_0 : w2.cell? ⟨gb339, 0, none⟩ = some (.int .i64 a0_0) := (kc BK339.out 0).trans rfl; have hcz3_1 : w2.cell? ⟨gb339, 1, none⟩ = some (.int .i64 a0_1) := (kc BK339.out 1).trans rfl; have hfz3_0 := kf BK339.out 0; have hfz3_1 := kf BK339.out 1) | ((with_reducible refine gate_dst (N := 27) rfl ?_); refine Kd.R_lit k66 _ 66 ?hg (N := 27) ?hd (xs := ([(⟨a0_0, wrap64 (a0_1 - 1)⟩ : S66), (⟨wrap64 (a0_0 - 1), a0_1⟩ : S66), (⟨wrap64 (a0_0 + 1), a0_1⟩ : S66), (⟨a0_0, wrap64 (a0_1 + 1)⟩ : S66)] : List (S66))) (inner := [.int .i64 a0_0, .int .i64 (wrap64 (a0_1 - 1)), .int .i64 (wrap64 (a0_0 - 1)), .int .i64 a0_1, .int .i64 (wrap64 (a0_0 + 1)), .int .i64 a0_1, .int .i64 a0_0, .int .i64 (wrap64 (a0_1 + 1))]) (ok := fun _ => True) (okp := fun _ => True) ?hr ?hp (fun _ hk => hk) trivial (Below.refl _ _) (Nat.le_refl _) (by simp) ?_; (case hd => rfl); (case hg => rfl); (case hr => first | (go_simp; done) | (go_simp; rfl)); (case hp => exact (Reps.c2 (show Kd.M k66 _ _ _ (⟨a0_0, wrap64 (a0_1 - 1)⟩ : S66) [.int .i64 a0_0, .int .i64 (wrap64 (a0_1 - 1))] from (k66_mkM _ _ _ (⟨a0_0, wrap64 (a0_1 - 1)⟩ : S66) )) (Reps.c2 (show Kd.M k66 _ _ _ (⟨wrap64 (a0_0 - 1), a0_1⟩ : S66) [.int .i64 (wrap64 (a0_0 - 1)), .int .i64 a0_1] from (k66_mkM _ _ _ (⟨wrap64 (a0_0 - 1), a0_1⟩ : S66) )) (Reps.c2 (show Kd.M k66 _ _ _ (⟨wrap64 (a0_0 + 1), a0_1⟩ : S66) [.int .i64 (wrap64 (a0_0 + 1)), .int .i64 a0_1] from (k66_mkM _ _ _ (⟨wrap64 (a0_0 + 1), a0_1⟩ : S66) )) (Reps.c2 (show Kd.M k66 _ _ _ (⟨a0_0, wrap64 (a0_1 + 1)⟩ : S66) [.int .i64 a0_0, .int .i64 (wrap64 (a0_1 + 1))] from (k66_mkM _ _ _ (⟨a0_0, wrap64 (a0_1 + 1)⟩ : S66) )) (Reps.none _ _)))))); intro v341 w4 ho5 hb hg_ hnew_; clear hg_ hnew_; (first | rw [← Ny340.out] at ho5 | (simp only [Int.reduceToNat] at ho5; rw [← Ny340.out] at ho5)); have n0_ := am (Kd.R_lower (Kd.R_newB ho5 (g := gb339) (o := .cells #[.int .i64 a0_0, .int .i64 a0_1] 66 (0, 0)) (zK BK339)) (Bb5 (by repeat (first | (with_reducible first | exact HB.out | apply Bb1 | apply Bb2 | apply Bb3 | refine Bb4 ?_ GE339.out) | exact HB.out)))); have n1_ := am (Bk4 (g := gb339) (o := .cells #[.int .i64 a0_0, .int .i64 a0_1] 66 (0, 0)) (zK BK339) hb); have n2_ := am (Bb6 (by repeat (first | (with_reducible first | exact HB.out | apply Bb1 | apply Bb2 | apply Bb3 | refine Bb4 ?_ GE339.out) | exact HB.out)) hb); clear BK339; clear HB; have HO342 := n0_; have BK339 := n1_; have HB := n2_; clear n0_ n1_ n2_; clear hb ho5))
 go_ret
 exact ⟨_, zE, by (with_reducible repeat (first | apply Kd.R_alloc | apply Kd.R_drewN | apply Kd.R_drew)); exact Kd.R_mono HO342.out (fun _ hk => trivial), by repeat (first | (with_reducible first | exact HB.out | apply Bb1 | apply Bb2 | apply Bb3 | refine Bb4 ?_ GE339.out) | exact HB.out)⟩

end Go.Proofs.YtbphiipcnjelbaaGreat.Q
