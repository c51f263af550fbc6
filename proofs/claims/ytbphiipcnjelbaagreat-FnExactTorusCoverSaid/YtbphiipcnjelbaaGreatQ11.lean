/- Written by a program of this session (wip/tools/pp.py) out of the translation, with the kit's printer. -/
import Derived.Test.YtbphiipcnjelbaaGreatQ0
namespace Go.Proofs.YtbphiipcnjelbaaGreat.Q
open Go.RowKit Go.Proofs.YtbphiipcnjelbaaGreatW.PrintWords Go.Proofs.YtbphiipcnjelbaaGreatW.PrintLast Go.Proofs.YtbphiipcnjelbaaGreatW.PrintMore
attribute [local go_sem] max2_int min2_int max_two min_two max_three min_three max_four min_four
set_option linter.unusedVariables false
set_option linter.unusedSimpArgs false

/-! ### impl_turnCell: function 124 -/
mutual
def impl_turnCell.j0 : Nat → Int → Int → Int → Option (Int × Int)
 | 0, _, _, _ => none
 | k + 1, x1, x354000, x354001 => impl_turnCell.l0 k (Int.tmod x1 4) 0 x354000 x354001
def impl_turnCell.l0 : Nat → Int → Int → Int → Int → Option (Int × Int)
 | 0, _, _, _, _ => none
 | k + 1, x12, x13, x354000, x354001 => if x13 < x12 then (impl_turnCell.l0 k x12 (wrap64 (x13 + 1)) (wrap64 (-x354001)) x354000) else (some (x354000, x354001))
end
def impl_turnCell.f (k : Nat) (a0_0 : Int) (a0_1 : Int) (a1 : Int) : Option (Int × Int) := if a1 ≥ 4 then (impl_turnCell.j0 k a1 (wrap64 (-a0_0)) a0_1) else (impl_turnCell.j0 k a1 a0_0 a0_1)
theorem impl_turnCell.mono_l : ∀ k, (∀ y0 y1 y2, LeO (impl_turnCell.j0 k y0 y1 y2) (impl_turnCell.j0 (k + 1) y0 y1 y2)) ∧ (∀ y0 y1 y2 y3, LeO (impl_turnCell.l0 k y0 y1 y2 y3) (impl_turnCell.l0 (k + 1) y0 y1 y2 y3))
 | 0 => ⟨fun _ _ _ r h => by simp [impl_turnCell.j0] at h, fun _ _ _ _ r h => by simp [impl_turnCell.l0] at h⟩
 | k + 1 => by
  obtain ⟨ih0, ih1⟩ := impl_turnCell.mono_l k
  refine ⟨?_, ?_⟩
  ·intro y0 y1 y2
   unfold impl_turnCell.j0
   with_reducible repeat' first | exact ih0 _ _ _ | exact ih1 _ _ _ _ | exact LeO.refl _ | exact LeO.none _ | refine LeO.ite ?_ ?_ | refine LeO.bind ?_ (fun _ => ?_)
  ·intro y0 y1 y2 y3
   unfold impl_turnCell.l0
   with_reducible repeat' first | exact ih0 _ _ _ | exact ih1 _ _ _ _ | exact LeO.refl _ | exact LeO.none _ | refine LeO.ite ?_ ?_ | refine LeO.bind ?_ (fun _ => ?_)
theorem impl_turnCell.mono : ∀ a0 a1 a2 k, LeO (impl_turnCell.f k a0 a1 a2) (impl_turnCell.f (k + 1) a0 a1 a2) := by
 intro a0 a1 a2 k
 obtain ⟨ih0, ih1⟩ := impl_turnCell.mono_l k
 unfold impl_turnCell.f
 with_reducible repeat' first | exact ih0 _ _ _ | exact ih1 _ _ _ _ | exact LeO.refl _ | exact LeO.none _ | refine LeO.ite ?_ ?_ | refine LeO.bind ?_ (fun _ => ?_)
set_option maxHeartbeats 8000000 in
set_option maxRecDepth 100000 in
theorem impl_turnCell.calls (k : Nat) (a0_0 : Int) (a0_1 : Int) (a1 : Int) (r1 : Int) (r2 : Int) (w : World) (h : impl_turnCell.f k a0_0 a0_1 a1 = some (r1, r2)) :
  Calls Tryz.prog 124 #[.agg #[.int .i64 a0_0, .int .i64 a0_1], .int .i64 a1] w fun e w' => e = .returned (.agg #[.int .i64 r1, .int .i64 r2]) ∧ Below w.heap.size w w' := by
 have hu66 := Tryz.underlying66
 have HB := am (Below.refl w.heap.size w)
 have H : (if a1 ≥ 4 then (impl_turnCell.j0 k a1 (wrap64 (-a0_0)) a0_1) else (impl_turnCell.j0 k a1 a0_0 a0_1)) = some (r1, r2) := h
 clear h
 have HC3 := am H
 clear H
 go_enter Tryz.func124, Tryz.ntmps124
 go_upto_if 6 with (first | ((with_reducible refine gate_dst (N := 2) rfl ?_); refine box_event ?hg (N := 2) ?hd (cs := #[.int .i64 a0_0, .int .i64 a0_1]) (t := 66) ?hr ?_; (case hd => rfl); (case hg => rfl); (case hr => first | (go_simp; done) | (go_simp; rfl)); intro gb353 hg w4 hbox hb; have n0_ := am (Bb6 zB hb); have n1_ := am (hbox); have n2_ := am ((by rw [hg]; exact (Bb5 zB) : w.heap.size ≤ gb353)); have n3_ := n2_; clear HB; have HB := n0_; have BK353 := n1_; have GW353 := n2_; have GE353 := n3_; clear n0_ n1_ n2_ n3_; clear hb hbox hg) | ((with_reducible refine gate_dst (N := 4) rfl ?_); refine box_event ?hg (N := 4) ?hd (cs := #[.int .i64 0, .int .i64 0]) (t := 66) ?hr ?_; (case hd => rfl); (case hg => rfl); (case hr => first | (go_simp; done) | (go_simp; rfl)); intro gb354 hg w5 hbox hb; have n0_ := am (Bk4 (g := gb353) (o := .cells #[.int .i64 a0_0, .int .i64 a0_1] 66 (0, 0)) (zK BK353) hb); have n1_ := am (Bb6 (by repeat (first | (with_reducible first | exact HB.out | apply Bb1 | apply Bb2 | apply Bb3 | refine Bb4 ?_ GE353.out) | exact HB.out)) hb); have n2_ := am (hbox); have n3_ := am ((by rw [hg]; exact (Bb5 (by repeat (first | (with_reducible first | exact HB.out | apply Bb1 | apply Bb2 | apply Bb3 | refine Bb4 ?_ GE353.out) | exact HB.out))) : w.heap.size ≤ gb354)); have n4_ := n3_; have n5_ := am ((by rw [hg]; exact nl (Bk5 (g := gb353) (o := .cells #[.int .i64 a0_0, .int .i64 a0_1] 66 (0, 0)) (zK BK353)) : gb353 ≠ gb354)); have n6_ := am ((by rw [hg]; exact ng (Bk5 (g := gb353) (o := .cells #[.int .i64 a0_0, .int .i64 a0_1] 66 (0, 0)) (zK BK353)) : gb354 ≠ gb353)); clear BK353; clear HB; have BK353 := n0_; have HB := n1_; have BK354 := n2_; have GW354 := n3_; have GE354 := n4_; have NB353_354 := n5_; have NB354_353 := n6_; clear n0_ n1_ n2_ n3_ n4_ n5_ n6_; clear hb hbox hg))
 (try simp only [Act.put, sa])
 go_cut [] (fun wc => ∃ (kq : Nat) (x354000_2 : Int), Aside0 (impl_turnCell.j0 kq a1 x354000_2 a0_1 = some (r1, r2)) ∧ Aside0 (kq ≤ k) ∧ Aside0 (wc.heap[gb353]? = some (.cells #[.int .i64 x354000_2, .int .i64 a0_1] 66 (0, 0))) ∧ Aside0 (wc.heap[gb354]? = some (.cells #[.int .i64 0, .int .i64 0] 66 (0, 0))) ∧ Aside0 (Below w.heap.size w wc))
 case first =>
  have H := HC3.out
  clear HC3
  by_cases c6 : a1 ≥ 4
  rotate_left
  ·rw [if_neg c6] at H
   have c6b0 : decide (4 ≤ a1) = false := decide_eq_false c6
   clear c6
   (first | rw [c6b0] | (simp only [i64_w, i32_w]; rw [c6b0]) | skip)
   have H' := am H
   clear H
   go_wp2
   go_meet
   case rel => exact ⟨_, (a0_0), H', ⟨by first | omega | exact Nat.le_refl _⟩, ⟨zK BK353⟩, ⟨zK BK354⟩, ⟨by repeat (first | (with_reducible first | exact HB.out | apply Bb1 | apply Bb2 | apply Bb3 | refine Bb4 ?_ GE353.out | refine Bb4 ?_ GE354.out) | exact HB.out)⟩⟩
  rw [if_pos c6] at H
  have c6b0 : decide (4 ≤ a1) = true := decide_eq_true c6
  clear c6
  (first | rw [c6b0] | (simp only [i64_w, i32_w]; rw [c6b0]) | skip)
  have H' := am H
  clear H
  have hnb7 := NB353_354.out
  have hnc7 := NB354_353.out
  have hcz8_0 : w5.cell? ⟨gb353, 0, none⟩ = some (.int .i64 a0_0) := (kc BK353.out 0).trans rfl
  have hcz8_1 : w5.cell? ⟨gb353, 1, none⟩ = some (.int .i64 a0_1) := (kc BK353.out 1).trans rfl
  have hfz8_0 := kf BK353.out 0
  have hfz8_1 := kf BK353.out 1
  go_wp2
  go_meet
  case rel => exact ⟨_, (wrap64 (-a0_0)), H', ⟨by first | omega | exact Nat.le_refl _⟩, ⟨by (with_reducible repeat (first | refine Bk2 ?_ _ | refine Bk3 ?_ | refine Bk1 ?_ _)); refine blk_put (cs := #[.int .i64 a0_0, .int .i64 a0_1]) ?_ 0 _ rfl; (with_reducible repeat (first | refine Bk2 ?_ _ | refine Bk3 ?_ | refine Bk1 ?_ _)); exact BK353.out⟩, ⟨by (with_reducible repeat (first | refine Bk2 ?_ _ | refine Bk3 ?_ | refine Bk1 ?_ _)); refine blk_far ?_ NB354_353.out _; (with_reducible repeat (first | refine Bk2 ?_ _ | refine Bk3 ?_ | refine Bk1 ?_ _)); exact BK354.out⟩, ⟨by repeat (first | (with_reducible first | exact HB.out | apply Bb1 | apply Bb2 | apply Bb3 | refine Bb4 ?_ GE353.out | refine Bb4 ?_ GE354.out) | exact HB.out)⟩⟩
 clear HC3
 try clear c1
 try clear p2
 try clear c6
 try clear c6b0
 try clear p6
 try clear c7
 try clear hcz8_0
 try clear hcz8_1
 try clear hfz8_0
 try clear hfz8_1
 obtain ⟨kq, x354000_2, HA, HJ2, BK353, BK354, HB⟩ := hcut
 cases kq with
 | zero => exact absurd HA.out (by simp [impl_turnCell.j0])
 | succ kj2 =>
  have H := HA.out
  clear HA
  simp only [impl_turnCell.j0] at H
  have H' := am H
  clear H
  go_wp2
  go_loopg [13] kj2 (fun kq v13 w' => ∃ (x13_2 : Int) (x354000_2 : Int) (x354001_2 : Int), v13 = .int .i64 x13_2 ∧ Aside0 (impl_turnCell.l0 kq (Int.tmod a1 4) x13_2 x354000_2 x354001_2 = some (r1, r2)) ∧ Aside0 (kq ≤ kj2) ∧ Aside0 (w'.heap[gb353]? = some (.cells #[.int .i64 x354000_2, .int .i64 x354001_2] 66 (0, 0))) ∧ Aside0 (w'.heap[gb354]? = some (.cells #[.int .i64 0, .int .i64 0] 66 (0, 0))) ∧ Aside0 (Below w.heap.size w w'))
  case atStart => exact ⟨(0), (x354000_2), (a0_1), zS, H', ⟨Nat.le_refl _⟩, ⟨zK BK353⟩, ⟨zK BK354⟩, ⟨by repeat (first | (with_reducible first | exact HB.out | apply Bb1 | apply Bb2 | apply Bb3 | refine Bb4 ?_ GE353.out | refine Bb4 ?_ GE354.out) | exact HB.out)⟩⟩
  case round =>
   clear H'
   try clear c1
   try clear p2
   try clear c6
   try clear c6b0
   try clear p6
   try clear c7
   try clear hcz8_0
   try clear hcz8_1
   try clear hfz8_0
   try clear hfz8_1
   try clear p2
   try clear p6
   obtain ⟨x13_2, x354000_2, x354001_2, rfl, HA, HK2, BK353, BK354, HB⟩ := hrel
   cases gk with
   | zero => exact absurd HA.out (by simp [impl_turnCell.l0])
   | succ k2 =>
    have H := HA.out
    clear HA
    simp only [impl_turnCell.l0] at H
    by_cases c9 : x13_2 < (Int.tmod a1 4)
    rotate_left
    ·rw [if_neg c9] at H
     have c9b0 : decide (x13_2 < (Int.tmod a1 4)) = false := decide_eq_false c9
     clear c9
     simp only [Option.some.injEq, Prod.mk.injEq] at H
     obtain ⟨rfl, rfl⟩ := H
     have hnb12 := NB353_354.out
     have hnc12 := NB354_353.out
     have hcz13_0 : wr.cell? ⟨gb353, 0, none⟩ = some (.int .i64 x354000_2) := (kc BK353.out 0).trans rfl
     have hcz13_1 : wr.cell? ⟨gb353, 1, none⟩ = some (.int .i64 x354001_2) := (kc BK353.out 1).trans rfl
     have hfz13_0 := kf BK353.out 0
     have hfz13_1 := kf BK353.out 1
     have hcz14_0 : wr.cell? ⟨gb354, 0, none⟩ = some (.int .i64 0) := (kc BK354.out 0).trans rfl
     have hcz14_1 : wr.cell? ⟨gb354, 1, none⟩ = some (.int .i64 0) := (kc BK354.out 1).trans rfl
     have hfz14_0 := kf BK354.out 0
     have hfz14_1 := kf BK354.out 1
     go_wp2
     refine bodyPost_ret (results_cell_row rfl _ _ gb354 66 #[.int .i64 x354000_2, .int .i64 x354001_2] (0, 0) _ rfl (by (with_reducible repeat (first | refine Bk2 ?_ _ | refine Bk3 ?_ | refine Bk1 ?_ _)); refine blk_put (cs := #[.int .i64 x354000_2, .int .i64 0]) ?_ 1 _ rfl; (with_reducible repeat (first | refine Bk2 ?_ _ | refine Bk3 ?_ | refine Bk1 ?_ _)); refine blk_put (cs := #[.int .i64 0, .int .i64 0]) ?_ 0 _ rfl; (with_reducible repeat (first | refine Bk2 ?_ _ | refine Bk3 ?_ | refine Bk1 ?_ _)); exact BK354.out) Tryz.underlying66 rfl (by kernel_rfl)) rfl ?_
     exact ⟨zE, by repeat (first | (with_reducible first | exact HB.out | apply Bb1 | apply Bb2 | apply Bb3 | refine Bb4 ?_ GE353.out | refine Bb4 ?_ GE354.out) | exact HB.out)⟩
    rw [if_pos c9] at H
    have c9b0 : decide (x13_2 < (Int.tmod a1 4)) = true := decide_eq_true c9
    clear c9
    have H' := am H
    clear H
    have hnb10 := NB353_354.out
    have hnc10 := NB354_353.out
    have hcz11_0 : wr.cell? ⟨gb353, 0, none⟩ = some (.int .i64 x354000_2) := (kc BK353.out 0).trans rfl
    have hcz11_1 : wr.cell? ⟨gb353, 1, none⟩ = some (.int .i64 x354001_2) := (kc BK353.out 1).trans rfl
    have hfz11_0 := kf BK353.out 0
    have hfz11_1 := kf BK353.out 1
    go_wp2
    go_roundg k2
    case measure => have := HJ2.out; have := HK2.out; omega
    case rel => exact ⟨(wrap64 (x13_2 + 1)), (wrap64 (-x354001_2)), (x354000_2), zS, H', ⟨by have := HJ2.out; have := HK2.out; omega⟩, ⟨by (with_reducible repeat (first | refine Bk2 ?_ _ | refine Bk3 ?_ | refine Bk1 ?_ _)); refine blk_put (cs := #[.int .i64 (wrap64 (-x354001_2)), .int .i64 x354001_2]) ?_ 1 _ rfl; (with_reducible repeat (first | refine Bk2 ?_ _ | refine Bk3 ?_ | refine Bk1 ?_ _)); refine blk_put (cs := #[.int .i64 x354000_2, .int .i64 x354001_2]) ?_ 0 _ rfl; (with_reducible repeat (first | refine Bk2 ?_ _ | refine Bk3 ?_ | refine Bk1 ?_ _)); exact BK353.out⟩, ⟨by (with_reducible repeat (first | refine Bk2 ?_ _ | refine Bk3 ?_ | refine Bk1 ?_ _)); refine blk_far ?_ NB354_353.out _; (with_reducible repeat (first | refine Bk2 ?_ _ | refine Bk3 ?_ | refine Bk1 ?_ _)); refine blk_far ?_ NB354_353.out _; (with_reducible repeat (first | refine Bk2 ?_ _ | refine Bk3 ?_ | refine Bk1 ?_ _)); exact BK354.out⟩, ⟨by repeat (first | (with_reducible first | exact HB.out | apply Bb1 | apply Bb2 | apply Bb3 | refine Bb4 ?_ GE353.out | refine Bb4 ?_ GE354.out) | exact HB.out)⟩⟩

end Go.Proofs.YtbphiipcnjelbaaGreat.Q
