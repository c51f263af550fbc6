/- Written by a program of this session (wip/tools/pp.py) out of the translation, with the kit's printer. -/
import Derived.Test.YtbbhohaenijaoaaGreatQ0
import Derived.Test.YtbbhohaenijaoaaGreatQ2
import Derived.Test.YtbbhohaenijaoaaGreatQ3
import Derived.Test.YtbbhohaenijaoaaGreatQ4
import Derived.Test.YtbbhohaenijaoaaGreatQ6
namespace Go.Proofs.YtbbhohaenijaoaaGreat.Q
open Go.RowKit Go.Proofs.YtbbhohaenijaoaaGreatW.PrintWords Go.Proofs.YtbbhohaenijaoaaGreatW.PrintLast Go.Proofs.YtbbhohaenijaoaaGreatW.PrintMore
attribute [local go_sem] max2_int min2_int max_two min_two max_three min_three max_four min_four
set_option linter.unusedVariables false
set_option linter.unusedSimpArgs false

/-! ### spec_l03Turn: function 78 -/
mutual
def spec_l03Turn.j0 : Nat → Int → Int → Int → Option (Int × Int)
 | 0, _, _, _ => none
 | k + 1, x1, x249000, x249001 => spec_l03Turn.l0 k (Int.tmod x1 4) x249000 x249001
def spec_l03Turn.l0 : Nat → Int → Int → Int → Option (Int × Int)
 | 0, _, _, _ => none
 | k + 1, x5, x249000, x249001 => if x5 > 0 then (spec_l03Turn.l0 k (wrap64 (x5 - 1)) (wrap64 (-x249001)) x249000) else (some (x249000, x249001))
end
def spec_l03Turn.f (k : Nat) (a0_0 : Int) (a0_1 : Int) (a1 : Int) : Option (Int × Int) := if a1 ≥ 4 then (spec_l03Turn.j0 k a1 (wrap64 (-a0_0)) a0_1) else (spec_l03Turn.j0 k a1 a0_0 a0_1)
theorem spec_l03Turn.mono_l : ∀ k, (∀ y0 y1 y2, LeO (spec_l03Turn.j0 k y0 y1 y2) (spec_l03Turn.j0 (k + 1) y0 y1 y2)) ∧ (∀ y0 y1 y2, LeO (spec_l03Turn.l0 k y0 y1 y2) (spec_l03Turn.l0 (k + 1) y0 y1 y2))
 | 0 => ⟨fun _ _ _ r h => by simp [spec_l03Turn.j0] at h, fun _ _ _ r h => by simp [spec_l03Turn.l0] at h⟩
 | k + 1 => by
  obtain ⟨ih0, ih1⟩ := spec_l03Turn.mono_l k
  refine ⟨?_, ?_⟩
  ·intro y0 y1 y2
   unfold spec_l03Turn.j0
   with_reducible repeat' first | exact ih0 _ _ _ | exact ih1 _ _ _ | exact LeO.refl _ | exact LeO.none _ | refine LeO.ite ?_ ?_ | refine LeO.bind ?_ (fun _ => ?_)
  ·intro y0 y1 y2
   unfold spec_l03Turn.l0
   with_reducible repeat' first | exact ih0 _ _ _ | exact ih1 _ _ _ | exact LeO.refl _ | exact LeO.none _ | refine LeO.ite ?_ ?_ | refine LeO.bind ?_ (fun _ => ?_)
theorem spec_l03Turn.mono : ∀ a0 a1 a2 k, LeO (spec_l03Turn.f k a0 a1 a2) (spec_l03Turn.f (k + 1) a0 a1 a2) := by
 intro a0 a1 a2 k
 obtain ⟨ih0, ih1⟩ := spec_l03Turn.mono_l k
 unfold spec_l03Turn.f
 with_reducible repeat' first | exact ih0 _ _ _ | exact ih1 _ _ _ | exact LeO.refl _ | exact LeO.none _ | refine LeO.ite ?_ ?_ | refine LeO.bind ?_ (fun _ => ?_)
set_option maxHeartbeats 8000000 in
set_option maxRecDepth 100000 in
theorem spec_l03Turn.calls (k : Nat) (a0_0 : Int) (a0_1 : Int) (a1 : Int) (r1 : Int) (r2 : Int) (w : World) (h : spec_l03Turn.f k a0_0 a0_1 a1 = some (r1, r2)) :
  Calls Tryz.prog 78 #[.agg #[.int .i64 a0_0, .int .i64 a0_1], .int .i64 a1] w fun e w' => e = .returned (.agg #[.int .i64 r1, .int .i64 r2]) ∧ Below w.heap.size w w' := by
 have hu44 := Tryz.underlying44
 have HB := am (Below.refl w.heap.size w)
 have H : (if a1 ≥ 4 then (spec_l03Turn.j0 k a1 (wrap64 (-a0_0)) a0_1) else (spec_l03Turn.j0 k a1 a0_0 a0_1)) = some (r1, r2) := h
 clear h
 have HC3 := am H
 clear H
 go_enter Tryz.func78, Tryz.ntmps78
 go_upto_if 7 with (first | ((with_reducible refine gate_dst (N := 2) rfl ?_); refine box_event ?hg (N := 2) ?hd (cs := #[.int .i64 a0_0, .int .i64 a0_1]) (t := 44) ?hr ?_; (case hd => rfl); (case hg => rfl); (case hr => first | (go_simp; done) | (go_simp; rfl)); intro gb248 hg w4 hbox hb; have n0_ := am (Bb6 zB hb); have n1_ := am (hbox); have n2_ := am ((by rw [hg]; exact (Bb5 zB) : w.heap.size ≤ gb248)); have n3_ := n2_; clear HB; have HB := n0_; have BK248 := n1_; have GW248 := n2_; have GE248 := n3_; clear n0_ n1_ n2_ n3_; clear hb hbox hg) | ((with_reducible refine gate_dst (N := 4) rfl ?_); refine box_event ?hg (N := 4) ?hd (cs := #[.int .i64 0, .int .i64 0]) (t := 44) ?hr ?_; (case hd => rfl); (case hg => rfl); (case hr => first | (go_simp; done) | (go_simp; rfl)); intro gb249 hg w5 hbox hb; have n0_ := am (Bk4 (g := gb248) (o := .cells #[.int .i64 a0_0, .int .i64 a0_1] 44 (0, 0)) (zK BK248) hb); have n1_ := am (Bb6 (by repeat (first | (with_reducible first | exact HB.out | apply Bb1 | apply Bb2 | apply Bb3 | refine Bb4 ?_ GE248.out) | exact HB.out)) hb); have n2_ := am (hbox); have n3_ := am ((by rw [hg]; exact (Bb5 (by repeat (first | (with_reducible first | exact HB.out | apply Bb1 | apply Bb2 | apply Bb3 | refine Bb4 ?_ GE248.out) | exact HB.out))) : w.heap.size ≤ gb249)); have n4_ := n3_; have n5_ := am ((by rw [hg]; exact nl (Bk5 (g := gb248) (o := .cells #[.int .i64 a0_0, .int .i64 a0_1] 44 (0, 0)) (zK BK248)) : gb248 ≠ gb249)); have n6_ := am ((by rw [hg]; exact ng (Bk5 (g := gb248) (o := .cells #[.int .i64 a0_0, .int .i64 a0_1] 44 (0, 0)) (zK BK248)) : gb249 ≠ gb248)); clear BK248; clear HB; have BK248 := n0_; have HB := n1_; have BK249 := n2_; have GW249 := n3_; have GE249 := n4_; have NB248_249 := n5_; have NB249_248 := n6_; clear n0_ n1_ n2_ n3_ n4_ n5_ n6_; clear hb hbox hg))
 (try simp only [Act.put, sa])
 go_cut [] (fun wc => ∃ (kq : Nat) (x249000_2 : Int) (x249001_2 : Int), Aside0 (spec_l03Turn.j0 kq a1 x249000_2 x249001_2 = some (r1, r2)) ∧ Aside0 (kq ≤ k) ∧ Aside0 (wc.heap[gb248]? = some (.cells #[.int .i64 x249000_2, .int .i64 x249001_2] 44 (0, 0))) ∧ Aside0 (wc.heap[gb249]? = some (.cells #[.int .i64 0, .int .i64 0] 44 (0, 0))) ∧ Aside0 (Below w.heap.size w wc))
 case first =>
  have H := HC3.out
  clear HC3
  by_cases c6 : a1 ≥ 4
  rotate_left
  ·rw [if_neg c6] at H
   have c6b0 : decide (4 ≤ a1) = false := decide_eq_false c6
   clear c6
   (first | rw [c6b0] | (simp only [i64_w, i32_w]; rw [c6b0]) | skip)
   have H' := am H
   clear H
   go_wp2
   go_meet
   case rel => exact ⟨_, (a0_0), (a0_1), H', ⟨by first | omega | exact Nat.le_refl _⟩, ⟨zK BK248⟩, ⟨zK BK249⟩, ⟨by repeat (first | (with_reducible first | exact HB.out | apply Bb1 | apply Bb2 | apply Bb3 | refine Bb4 ?_ GE248.out | refine Bb4 ?_ GE249.out) | exact HB.out)⟩⟩
  rw [if_pos c6] at H
  have c6b0 : decide (4 ≤ a1) = true := decide_eq_true c6
  clear c6
  (first | rw [c6b0] | (simp only [i64_w, i32_w]; rw [c6b0]) | skip)
  have H' := am H
  clear H
  have hnb7 := NB248_249.out
  have hnc7 := NB249_248.out
  have hcz8_0 : w5.cell? ⟨gb248, 0, none⟩ = some (.int .i64 a0_0) := (kc BK248.out 0).trans rfl
  have hcz8_1 : w5.cell? ⟨gb248, 1, none⟩ = some (.int .i64 a0_1) := (kc BK248.out 1).trans rfl
  have hfz8_0 := kf BK248.out 0
  have hfz8_1 := kf BK248.out 1
  go_wp2
  go_meet
  case rel => exact ⟨_, (wrap64 (-a0_0)), (a0_1), H', ⟨by first | omega | exact Nat.le_refl _⟩, ⟨by (with_reducible repeat (first | refine Bk2 ?_ _ | refine Bk3 ?_ | refine Bk1 ?_ _)); refine blk_put (cs := #[.int .i64 (wrap64 (-a0_0)), .int .i64 a0_1]) ?_ 1 _ rfl; (with_reducible repeat (first | refine Bk2 ?_ _ | refine Bk3 ?_ | refine Bk1 ?_ _)); refine blk_put (cs := #[.int .i64 a0_0, .int .i64 a0_1]) ?_ 0 _ rfl; (with_reducible repeat (first | refine Bk2 ?_ _ | refine Bk3 ?_ | refine Bk1 ?_ _)); exact BK248.out⟩, ⟨by (with_reducible repeat (first | refine Bk2 ?_ _ | refine Bk3 ?_ | refine Bk1 ?_ _)); refine blk_far ?_ NB249_248.out _; (with_reducible repeat (first | refine Bk2 ?_ _ | refine Bk3 ?_ | refine Bk1 ?_ _)); refine blk_far ?_ NB249_248.out _; (with_reducible repeat (first | refine Bk2 ?_ _ | refine Bk3 ?_ | refine Bk1 ?_ _)); exact BK249.out⟩, ⟨by repeat (first | (with_reducible first | exact HB.out | apply Bb1 | apply Bb2 | apply Bb3 | refine Bb4 ?_ GE248.out | refine Bb4 ?_ GE249.out) | exact HB.out)⟩⟩
 clear HC3
 try clear p2
 try clear c6
 try clear c6b0
 try clear p6
 try clear c7
 try clear hcz8_0
 try clear hcz8_1
 try clear hfz8_0
 try clear hfz8_1
 obtain ⟨kq, x249000_2, x249001_2, HA, HJ2, BK248, BK249, HB⟩ := hcut
 cases kq with
 | zero => exact absurd HA.out (by simp [spec_l03Turn.j0])
 | succ kj2 =>
  have H := HA.out
  clear HA
  simp only [spec_l03Turn.j0] at H
  have H' := am H
  clear H
  go_wp2
  go_loopg [5] kj2 (fun kq v5 w' => ∃ (x5_2 : Int) (x249000_2 : Int) (x249001_2 : Int), v5 = .int .i64 x5_2 ∧ Aside0 (spec_l03Turn.l0 kq x5_2 x249000_2 x249001_2 = some (r1, r2)) ∧ Aside0 (kq ≤ kj2) ∧ Aside0 (w'.heap[gb248]? = some (.cells #[.int .i64 x249000_2, .int .i64 x249001_2] 44 (0, 0))) ∧ Aside0 (w'.heap[gb249]? = some (.cells #[.int .i64 0, .int .i64 0] 44 (0, 0))) ∧ Aside0 (Below w.heap.size w w'))
  case atStart => exact ⟨(Int.tmod a1 4), (x249000_2), (x249001_2), zS, H', ⟨Nat.le_refl _⟩, ⟨zK BK248⟩, ⟨zK BK249⟩, ⟨by repeat (first | (with_reducible first | exact HB.out | apply Bb1 | apply Bb2 | apply Bb3 | refine Bb4 ?_ GE248.out | refine Bb4 ?_ GE249.out) | exact HB.out)⟩⟩
  case round =>
   clear H'
   try clear p2
   try clear c6
   try clear c6b0
   try clear p6
   try clear c7
   try clear hcz8_0
   try clear hcz8_1
   try clear hfz8_0
   try clear hfz8_1
   try clear p2
   try clear p6
   obtain ⟨x5_2, x249000_2, x249001_2, rfl, HA, HK2, BK248, BK249, HB⟩ := hrel
   cases gk with
   | zero => exact absurd HA.out (by simp [spec_l03Turn.l0])
   | succ k2 =>
    have H := HA.out
    clear HA
    simp only [spec_l03Turn.l0] at H
    by_cases c9 : x5_2 > 0
    rotate_left
    ·rw [if_neg c9] at H
     have c9b0 : decide (0 < x5_2) = false := decide_eq_false c9
     clear c9
     simp only [Option.some.injEq, Prod.mk.injEq] at H
     obtain ⟨rfl, rfl⟩ := H
     have hnb12 := NB248_249.out
     have hnc12 := NB249_248.out
     have hcz13_0 : wr.cell? ⟨gb248, 0, none⟩ = some (.int .i64 x249000_2) := (kc BK248.out 0).trans rfl
     have hcz13_1 : wr.cell? ⟨gb248, 1, none⟩ = some (.int .i64 x249001_2) := (kc BK248.out 1).trans rfl
     have hfz13_0 := kf BK248.out 0
     have hfz13_1 := kf BK248.out 1
     have hcz14_0 : wr.cell? ⟨gb249, 0, none⟩ = some (.int .i64 0) := (kc BK249.out 0).trans rfl
     have hcz14_1 : wr.cell? ⟨gb249, 1, none⟩ = some (.int .i64 0) := (kc BK249.out 1).trans rfl
     have hfz14_0 := kf BK249.out 0
     have hfz14_1 := kf BK249.out 1
     go_wp2
     refine bodyPost_ret (results_cell_row rfl _ _ gb249 44 #[.int .i64 x249000_2, .int .i64 x249001_2] (0, 0) _ rfl (by (with_reducible repeat (first | refine Bk2 ?_ _ | refine Bk3 ?_ | refine Bk1 ?_ _)); refine blk_put (cs := #[.int .i64 x249000_2, .int .i64 0]) ?_ 1 _ rfl; (with_reducible repeat (first | refine Bk2 ?_ _ | refine Bk3 ?_ | refine Bk1 ?_ _)); refine blk_put (cs := #[.int .i64 0, .int .i64 0]) ?_ 0 _ rfl; (with_reducible repeat (first | refine Bk2 ?_ _ | refine Bk3 ?_ | refine Bk1 ?_ _)); exact BK249.out) Tryz.underlying44 rfl (by kernel_rfl)) rfl ?_
     exact ⟨zE, by repeat (first | (with_reducible first | exact HB.out | apply Bb1 | apply Bb2 | apply Bb3 | refine Bb4 ?_ GE248.out | refine Bb4 ?_ GE249.out) | exact HB.out)⟩
    rw [if_pos c9] at H
    have c9b0 : decide (0 < x5_2) = true := decide_eq_true c9
    clear c9
    have H' := am H
    clear H
    have hnb10 := NB248_249.out
    have hnc10 := NB249_248.out
    have hcz11_0 : wr.cell? ⟨gb248, 0, none⟩ = some (.int .i64 x249000_2) := (kc BK248.out 0).trans rfl
    have hcz11_1 : wr.cell? ⟨gb248, 1, none⟩ = some (.int .i64 x249001_2) := (kc BK248.out 1).trans rfl
    have hfz11_0 := kf BK248.out 0
    have hfz11_1 := kf BK248.out 1
    go_wp2
    go_roundg k2
    case measure => have := HJ2.out; have := HK2.out; omega
    case rel => exact ⟨(wrap64 (x5_2 - 1)), (wrap64 (-x249001_2)), (x249000_2), zS, H', ⟨by have := HJ2.out; have := HK2.out; omega⟩, ⟨by (with_reducible repeat (first | refine Bk2 ?_ _ | refine Bk3 ?_ | refine Bk1 ?_ _)); refine blk_put (cs := #[.int .i64 (wrap64 (-x249001_2)), .int .i64 x249001_2]) ?_ 1 _ rfl; (with_reducible repeat (first | refine Bk2 ?_ _ | refine Bk3 ?_ | refine Bk1 ?_ _)); refine blk_put (cs := #[.int .i64 x249000_2, .int .i64 x249001_2]) ?_ 0 _ rfl; (with_reducible repeat (first | refine Bk2 ?_ _ | refine Bk3 ?_ | refine Bk1 ?_ _)); exact BK248.out⟩, ⟨by (with_reducible repeat (first | refine Bk2 ?_ _ | refine Bk3 ?_ | refine Bk1 ?_ _)); refine blk_far ?_ NB249_248.out _; (with_reducible repeat (first | refine Bk2 ?_ _ | refine Bk3 ?_ | refine Bk1 ?_ _)); refine blk_far ?_ NB249_248.out _; (with_reducible repeat (first | refine Bk2 ?_ _ | refine Bk3 ?_ | refine Bk1 ?_ _)); exact BK249.out⟩, ⟨by repeat (first | (with_reducible first | exact HB.out | apply Bb1 | apply Bb2 | apply Bb3 | refine Bb4 ?_ GE248.out | refine Bb4 ?_ GE249.out) | exact HB.out)⟩⟩

/-! ### spec_l02Sort: function 79 -/
def spec_l02Sort.l0 : Nat → List (S44) → List (S44) → Int → Option ((List (S44)))
 | 0, _, _, _ => none
 | k + 1, x0, x3, x4 => if x4 < (x0.length : Int) then (if 0 ≤ x4 then ((spec_l02Insert.f k x3 ((rd_T44 x0 x4).f0) ((rd_T44 x0 x4).f1)).bind fun t254 => (spec_l02Sort.l0 k x0 t254 (wrap64 (x4 + 1)))) else (none)) else (some x3)
def spec_l02Sort.f (k : Nat) (l0 : List (S44)) : Option ((List (S44))) := spec_l02Sort.l0 k l0 (([] : List (S44))) 0
theorem spec_l02Sort.mono_l : ∀ k, (∀ y0 y1 y2, LeO (spec_l02Sort.l0 k y0 y1 y2) (spec_l02Sort.l0 (k + 1) y0 y1 y2))
 | 0 => fun _ _ _ r h => by simp [spec_l02Sort.l0] at h
 | k + 1 => by
  have ih0 := spec_l02Sort.mono_l k
  ·intro y0 y1 y2
   unfold spec_l02Sort.l0
   with_reducible repeat' first | exact ih0 _ _ _ | exact spec_l02Insert.mono _ _ _ _ | exact LeO.refl _ | exact LeO.none _ | refine LeO.ite ?_ ?_ | refine LeO.bind ?_ (fun _ => ?_)
theorem spec_l02Sort.mono : ∀ a0 k, LeO (spec_l02Sort.f k a0) (spec_l02Sort.f (k + 1) a0) := by
 intro a0 k
 have ih0 := spec_l02Sort.mono_l k
 unfold spec_l02Sort.f
 with_reducible repeat' first | exact ih0 _ _ _ | exact spec_l02Insert.mono _ _ _ _ | exact LeO.refl _ | exact LeO.none _ | refine LeO.ite ?_ ?_ | refine LeO.bind ?_ (fun _ => ?_)
set_option maxHeartbeats 8000000 in
set_option maxRecDepth 100000 in
theorem spec_l02Sort.calls (k : Nat) (A0 : Option Addr) (c0 : Nat) (l0 : List (S44)) (r : List (S44)) (w : World) (hr0 : Kd.C k44 w A0 l0.length l0) (hc0 : l0.length ≤ c0) (h : spec_l02Sort.f k l0 = some r) :
  Calls Tryz.prog 79 #[.slice A0 l0.length c0] w fun e w' => ∃ v0_ : Value, e = .returned (v0_) ∧ Kd.R k44 44 w' w.heap.size (fun _ => True) v0_ r ∧ Below w.heap.size w w' := by
 have hu44 := Tryz.underlying44
 have HR0 := am hr0
 have HC0 := am hc0
 clear hr0 hc0
 have HB := am (Below.refl w.heap.size w)
 have H : (spec_l02Sort.l0 k l0 (([] : List (S44))) 0) = some r := h
 clear h
 obtain ⟨y250, hy250⟩ : ∃ y_ : List (S44), y_ = (([] : List (S44))) := ⟨_, rfl⟩
 replace H : (spec_l02Sort.l0 k l0 y250 0) = some r := by first | (rw [hy250]; with_reducible exact H) | (have H2_ := (Option.bind_some _ _).symm.trans H; rw [hy250]; with_reducible exact H2_) | (have H2_ := (Option.bind_some _ _).symm.trans H; with_reducible exact H2_) | with_reducible exact H | (rw [hy250]; exact H) | exact H
 have Ny250 := am hy250
 clear hy250
 have H' := am H
 clear H
 go_enter Tryz.func79, Tryz.ntmps79
 go_wp2_with (first | ((with_reducible refine gate_dst (N := 5) rfl ?_); refine Kd.R_lit k44 _ 44 ?hg (N := 5) ?hd (xs := ([] : List (S44))) (inner := []) (ok := fun _ => True) (okp := fun _ => True) ?hr ?hp (fun _ hk => hk) trivial (Below.refl _ _) (Nat.le_refl _) (by simp) ?_; (case hd => rfl); (case hg => rfl); (case hr => first | (go_simp; done) | (go_simp; rfl)); (case hp => exact (Reps.none _ _)); intro v251 w2 ho3 hb hg_ hnew_; clear hg_ hnew_; (first | rw [← Ny250.out] at ho3 | (simp only [Int.reduceToNat] at ho3; rw [← Ny250.out] at ho3)); have n0_ := am (Kd.R_lower ho3 (Bb5 zB)); have n1_ := am (Bb6 zB hb); clear HB; have HO252 := n0_; have HB := n1_; clear n0_ n1_; clear hb ho3))
 go_loopg [3, 4] k (fun kq v3 v4 w' => ∃ (x3_1 : List (S44)) (x4_1 : Int), v4 = .int .i64 x4_1 ∧ Aside0 (spec_l02Sort.l0 kq l0 x3_1 x4_1 = some r) ∧ Aside0 (kq ≤ k) ∧ Aside0 (Kd.R k44 44 w' w.heap.size (fun _ => True) v3 x3_1) ∧ Aside0 (Below w.heap.size w w'))
 case atStart => exact ⟨(y250), (0), zS, H', ⟨Nat.le_refl _⟩, ⟨zR HO252⟩, ⟨zB⟩⟩
 case round =>
  clear H'
  try clear p2
  obtain ⟨x3_1, x4_1, rfl, HA, HK1, HO_3, HB⟩ := hrel
  cases gk with
  | zero => exact absurd HA.out (by simp [spec_l02Sort.l0])
  | succ k1 =>
   have H := HA.out
   clear HA
   simp only [spec_l02Sort.l0] at H
   by_cases c4 : x4_1 < (l0.length : Int)
   rotate_left
   ·rw [if_neg c4] at H
    have c4b0 : decide (x4_1 < (l0.length : Int)) = false := decide_eq_false c4
    clear c4
    obtain rfl := oi H
    go_wp2
    go_ret
    exact ⟨_, zE, by (with_reducible repeat (first | apply Kd.R_alloc | apply Kd.R_drewN | apply Kd.R_drew)); exact HO_3.out, zB⟩
   rw [if_pos c4] at H
   have c4b0 : decide (x4_1 < (l0.length : Int)) = true := decide_eq_true c4
   clear c4
   by_cases c5 : 0 ≤ x4_1
   rotate_left
   ·rw [if_neg c5] at H
    exact absurd H (by simp)
   rw [if_pos c5] at H
   have c5b0 : decide (0 ≤ x4_1) = true := decide_eq_true c5
   clear c5
   replace H := ob H
   obtain ⟨t254, A60, H⟩ := H
   (try dsimp only at H)
   have A6 := am A60
   clear A60
   have H' := am H
   clear H
   have p253 : 0 ≤ (x4_1 : Int) := zD
   have q253 : x4_1 < (l0.length : Int) := zD
   obtain ⟨ad253, e253, hx253_0, hx253_1⟩ := at_T44 HR0.out x4_1 p253 q253
   cases e253
   replace hx253_0 := pc HB.out hx253_0
   replace hx253_1 := pc HB.out hx253_1
   replace p253 := eq_true p253
   replace q253 := eq_true q253
   obtain ⟨Ao7, co7, eo7⟩ := Kd.R_slice HO_3.out
   subst eo7
   go_wp2_with (first | ((with_reducible refine gate_callee (f := 26) rfl ?_); refine goesL_ (some 17) rfl rfl Tryz.func26 (by kernel_rfl) rfl #[.slice Ao7 x3_1.length co7, .agg #[.int .i64 ((rd_T44 l0 x4_1).f0), .int .i64 ((rd_T44 l0 x4_1).f1)]] rfl zL ?_; (with_reducible refine (spec_l02Insert.calls k1 _ _ x3_1 ((rd_T44 l0 x4_1).f0) ((rd_T44 l0 x4_1).f1) t254 _ ?side1 ?side2 A6.out).mono ?_); (case side1 => repeat (first | exact (Kd.R_reads' HO_3.out).2.2 | (with_reducible refine Kd.C_alloc ?_ _) | (with_reducible refine Kd.C_drewN ?_ _) | (with_reducible refine Kd.C_drew ?_))); (case side2 => exact (Kd.R_reads' HO_3.out).2.1); rintro e w8 ⟨v255, rfl, ho0, hb⟩; refine ⟨_, rfl, ?_⟩; have n0_ := am (Kd.R_elder' (zR HO_3) (Kd.R_base ho0) hb); have n1_ := am (Kd.R_lower (Kd.R_new' ho0 (Kd.R_lt (zR HO_3))) (Bb5 zB)); have n2_ := am (Bb6 zB hb); clear HO_3; clear HB; have HO_3 := n0_; have HO256 := n1_; have HB := n2_; clear n0_ n1_ n2_; (try clear hb); (try clear hb2); (try clear hk); (try clear hi); (try clear ho0)))
   go_roundg k1
   case measure => have := HK1.out; omega
   case rel => exact ⟨(t254), (wrap64 (x4_1 + 1)), zS, H', ⟨by have := HK1.out; omega⟩, ⟨by (with_reducible repeat (first | apply Kd.R_alloc | apply Kd.R_drewN | apply Kd.R_drew)); exact Kd.R_mono HO256.out (fun _ hk => trivial)⟩, ⟨zB⟩⟩

/-! ### spec_l03Form: function 69 -/
def spec_l03Form.l0 : Nat → List (S44) → Int → List (S44) → Int → Option ((List (S44)))
 | 0, _, _, _, _ => none
 | k + 1, x0, x1, x5, x6 => if x6 < (x0.length : Int) then (if 0 ≤ x6 then ((spec_l03Turn.f k ((rd_T44 x0 x6).f0) ((rd_T44 x0 x6).f1) x1).bind fun bt261 => (if x5.length < 8796093022208 then (spec_l03Form.l0 k x0 x1 (x5 ++ [(⟨bt261.1, bt261.2⟩ : S44)]) (wrap64 (x6 + 1))) else (none))) else (none)) else ((spec_l02Sort.f k x5).bind fun t266 => ((spec_l02Normal.f k t266).bind fun t269 => (some t269)))
def spec_l03Form.f (k : Nat) (l0 : List (S44)) (a1 : Int) : Option ((List (S44))) := spec_l03Form.l0 k l0 a1 (([] : List (S44))) 0
theorem spec_l03Form.mono_l : ∀ k, (∀ y0 y1 y2 y3, LeO (spec_l03Form.l0 k y0 y1 y2 y3) (spec_l03Form.l0 (k + 1) y0 y1 y2 y3))
 | 0 => fun _ _ _ _ r h => by simp [spec_l03Form.l0] at h
 | k + 1 => by
  have ih0 := spec_l03Form.mono_l k
  ·intro y0 y1 y2 y3
   unfold spec_l03Form.l0
   with_reducible repeat' first | exact ih0 _ _ _ _ | exact spec_l02Normal.mono _ _ | exact spec_l02Sort.mono _ _ | exact spec_l03Turn.mono _ _ _ _ | exact LeO.refl _ | exact LeO.none _ | refine LeO.ite ?_ ?_ | refine LeO.bind ?_ (fun _ => ?_)
theorem spec_l03Form.mono : ∀ a0 a1 k, LeO (spec_l03Form.f k a0 a1) (spec_l03Form.f (k + 1) a0 a1) := by
 intro a0 a1 k
 have ih0 := spec_l03Form.mono_l k
 unfold spec_l03Form.f
 with_reducible repeat' first | exact ih0 _ _ _ _ | exact spec_l02Normal.mono _ _ | exact spec_l02Sort.mono _ _ | exact spec_l03Turn.mono _ _ _ _ | exact LeO.refl _ | exact LeO.none _ | refine LeO.ite ?_ ?_ | refine LeO.bind ?_ (fun _ => ?_)
set_option maxHeartbeats 8000000 in
set_option maxRecDepth 100000 in
theorem spec_l03Form.calls (k : Nat) (A0 : Option Addr) (c0 : Nat) (l0 : List (S44)) (a1 : Int) (r : List (S44)) (w : World) (hr0 : Kd.C k44 w A0 l0.length l0) (hc0 : l0.length ≤ c0) (h : spec_l03Form.f k l0 a1 = some r) :
  Calls Tryz.prog 69 #[.slice A0 l0.length c0, .int .i64 a1] w fun e w' => ∃ v0_ : Value, e = .returned (v0_) ∧ Kd.R k44 44 w' w.heap.size (fun _ => True) v0_ r ∧ Below w.heap.size w w' := by
 have hu44 := Tryz.underlying44
 have HR0 := am hr0
 have HC0 := am hc0
 clear hr0 hc0
 have HB := am (Below.refl w.heap.size w)
 have H : (spec_l03Form.l0 k l0 a1 (([] : List (S44))) 0) = some r := h
 clear h
 obtain ⟨y257, hy257⟩ : ∃ y_ : List (S44), y_ = (([] : List (S44))) := ⟨_, rfl⟩
 replace H : (spec_l03Form.l0 k l0 a1 y257 0) = some r := by first | (rw [hy257]; with_reducible exact H) | (have H2_ := (Option.bind_some _ _).symm.trans H; rw [hy257]; with_reducible exact H2_) | (have H2_ := (Option.bind_some _ _).symm.trans H; with_reducible exact H2_) | with_reducible exact H | (rw [hy257]; exact H) | exact H
 have Ny257 := am hy257
 clear hy257
 have H' := am H
 clear H
 go_enter Tryz.func69, Tryz.ntmps69
 go_wp2_with (first | ((with_reducible refine gate_dst (N := 7) rfl ?_); refine Kd.R_lit k44 _ 44 ?hg (N := 7) ?hd (xs := ([] : List (S44))) (inner := []) (ok := fun _ => True) (okp := fun _ => True) ?hr ?hp (fun _ hk => hk) trivial (Below.refl _ _) (Nat.le_refl _) (by simp) ?_; (case hd => rfl); (case hg => rfl); (case hr => first | (go_simp; done) | (go_simp; rfl)); (case hp => exact (Reps.none _ _)); intro v258 w3 ho4 hb hg_ hnew_; clear hg_ hnew_; (first | rw [← Ny257.out] at ho4 | (simp only [Int.reduceToNat] at ho4; rw [← Ny257.out] at ho4)); have n0_ := am (Kd.R_lower ho4 (Bb5 zB)); have n1_ := am (Bb6 zB hb); clear HB; have HO259 := n0_; have HB := n1_; clear n0_ n1_; clear hb ho4))
 go_loopg [5, 6] k (fun kq v5 v6 w' => ∃ (x5_1 : List (S44)) (x6_1 : Int), v6 = .int .i64 x6_1 ∧ Aside0 (spec_l03Form.l0 kq l0 a1 x5_1 x6_1 = some r) ∧ Aside0 (kq ≤ k) ∧ Aside0 (Kd.R k44 44 w' w.heap.size (fun _ => True) v5 x5_1) ∧ Aside0 (Below w.heap.size w w'))
 case atStart => exact ⟨(y257), (0), zS, H', ⟨Nat.le_refl _⟩, ⟨zR HO259⟩, ⟨zB⟩⟩
 case round =>
  clear H'
  try clear p2
  obtain ⟨x5_1, x6_1, rfl, HA, HK1, HO_5, HB⟩ := hrel
  cases gk with
  | zero => exact absurd HA.out (by simp [spec_l03Form.l0])
  | succ k1 =>
   have H := HA.out
   clear HA
   simp only [spec_l03Form.l0] at H
   by_cases c5 : x6_1 < (l0.length : Int)
   rotate_left
   ·rw [if_neg c5] at H
    have c5b0 : decide (x6_1 < (l0.length : Int)) = false := decide_eq_false c5
    clear c5
    replace H := ob H
    obtain ⟨t266, A110, H⟩ := H
    (try dsimp only at H)
    have A11 := am A110
    clear A110
    replace H := ob H
    obtain ⟨t269, A120, H⟩ := H
    replace H : (some t269) = some r := H
    have A12 := am A120
    clear A120
    obtain rfl := oi H
    obtain ⟨Ao13, co13, eo13⟩ := Kd.R_slice HO_5.out
    subst eo13
    go_wp2_with (first | ((with_reducible refine gate_callee (f := 79) rfl ?_); refine goesL_ (some 24) rfl rfl Tryz.func79 (by kernel_rfl) rfl #[.slice Ao13 x5_1.length co13] rfl zL ?_; (with_reducible refine (spec_l02Sort.calls k1 _ _ x5_1 t266 _ ?side1 ?side2 A11.out).mono ?_); (case side1 => repeat (first | exact (Kd.R_reads' HO_5.out).2.2 | (with_reducible refine Kd.C_alloc ?_ _) | (with_reducible refine Kd.C_drewN ?_ _) | (with_reducible refine Kd.C_drew ?_))); (case side2 => exact (Kd.R_reads' HO_5.out).2.1); rintro e w14 ⟨v267, rfl, ho0, hb⟩; refine ⟨_, rfl, ?_⟩; have n0_ := am (Kd.R_elder' (zR HO_5) (Kd.R_base ho0) hb); have n1_ := am (Kd.R_lower (Kd.R_new' ho0 (Kd.R_lt (zR HO_5))) (Bb5 zB)); have n2_ := am (Bb6 zB hb); clear HO_5; clear HB; have HO_5 := n0_; have HO268 := n1_; have HB := n2_; clear n0_ n1_ n2_; (try clear hb); (try clear hb2); (try clear hk); (try clear hi); (try clear ho0); obtain ⟨Ao15, co15, eo15⟩ := Kd.R_slice HO268.out; subst eo15) | ((with_reducible refine gate_callee (f := 30) rfl ?_); refine goesL_ (some 25) rfl rfl Tryz.func30 (by kernel_rfl) rfl #[.slice Ao15 t266.length co15] rfl zL ?_; (with_reducible refine (spec_l02Normal.calls k1 _ _ t266 t269 _ ?side1 ?side2 A12.out).mono ?_); (case side1 => repeat (first | exact (Kd.R_reads' HO268.out).2.2 | (with_reducible refine Kd.C_alloc ?_ _) | (with_reducible refine Kd.C_drewN ?_ _) | (with_reducible refine Kd.C_drew ?_))); (case side2 => exact (Kd.R_reads' HO268.out).2.1); rintro e w16 ⟨v270, rfl, ho0, hb⟩; refine ⟨_, rfl, ?_⟩; have n0_ := am (Kd.R_elder' (zR HO_5) (Kd.R_base ho0) hb); have n1_ := am (Kd.R_elder' (zR HO268) (Kd.R_base ho0) hb); have n2_ := am (Kd.R_lower (Kd.R_new' (Kd.R_new' ho0 (Kd.R_lt (zR HO_5))) (Kd.R_lt (zR HO268))) (Bb5 zB)); have n3_ := am (Bb6 zB hb); clear HO_5; clear HO268; clear HB; have HO_5 := n0_; have HO268 := n1_; have HO271 := n2_; have HB := n3_; clear n0_ n1_ n2_ n3_; (try clear hb); (try clear hb2); (try clear hk); (try clear hi); (try clear ho0)))
    go_ret
    exact ⟨_, zE, by (with_reducible repeat (first | apply Kd.R_alloc | apply Kd.R_drewN | apply Kd.R_drew)); exact Kd.R_mono HO271.out (fun _ hk => trivial), zB⟩
   rw [if_pos c5] at H
   have c5b0 : decide (x6_1 < (l0.length : Int)) = true := decide_eq_true c5
   clear c5
   by_cases c6 : 0 ≤ x6_1
   rotate_left
   ·rw [if_neg c6] at H
    exact absurd H (by simp)
   rw [if_pos c6] at H
   have c6b0 : decide (0 ≤ x6_1) = true := decide_eq_true c6
   clear c6
   replace H := ob H
   obtain ⟨⟨t261, t262⟩, A70, H⟩ := H
   (try dsimp only at H)
   have A7 := am A70
   clear A70
   by_cases c8 : x5_1.length < 8796093022208
   rotate_left
   ·rw [if_neg c8] at H
    exact absurd H (by simp)
   rw [if_pos c8] at H
   have LMc8 := am c8
   clear c8
   obtain ⟨y263, hy263⟩ : ∃ y_ : List (S44), y_ = (x5_1 ++ [(⟨t261, t262⟩ : S44)]) := ⟨_, rfl⟩
   replace H : (spec_l03Form.l0 k1 l0 a1 y263 (wrap64 (x6_1 + 1))) = some r := by first | (rw [hy263]; with_reducible exact H) | (have H2_ := (Option.bind_some _ _).symm.trans H; rw [hy263]; with_reducible exact H2_) | (have H2_ := (Option.bind_some _ _).symm.trans H; with_reducible exact H2_) | with_reducible exact H | (rw [hy263]; exact H) | exact H
   have Ny263 := am hy263
   clear hy263
   have H' := am H
   clear H
   have p260 : 0 ≤ (x6_1 : Int) := zD
   have q260 : x6_1 < (l0.length : Int) := zD
   obtain ⟨ad260, e260, hx260_0, hx260_1⟩ := at_T44 HR0.out x6_1 p260 q260
   cases e260
   replace hx260_0 := pc HB.out hx260_0
   replace hx260_1 := pc HB.out hx260_1
   replace p260 := eq_true p260
   replace q260 := eq_true q260
   go_wp2_with (first | ((with_reducible refine gate_callee (f := 78) rfl ?_); refine goesL_ (some 20) rfl rfl Tryz.func78 (by kernel_rfl) rfl #[.agg #[.int .i64 ((rd_T44 l0 x6_1).f0), .int .i64 ((rd_T44 l0 x6_1).f1)], .int .i64 a1] rfl zL ?_; (with_reducible refine (spec_l03Turn.calls k1 ((rd_T44 l0 x6_1).f0) ((rd_T44 l0 x6_1).f1) a1 t261 t262 _ A7.out).mono ?_); rintro e w9 ⟨rfl, hb⟩; refine ⟨_, rfl, ?_⟩; have n0_ := am (Kd.R_below (zR HO_5) hb); have n1_ := am (Bb6 zB hb); clear HO_5; clear HB; have HO_5 := n0_; have HB := n1_; clear n0_ n1_; (try clear hb); (try clear hb2); (try clear hk); (try clear hi)) | ((with_reducible refine gate_builtin (b := .append) (xs := #[.tmp 14, .tmp 21]) rfl ?_); at_builtin; refine Kd.R_append k44 (w0 := w) w.heap.size rfl (.tmp 14) (.tmp 21) 29 44 (.agg #[(.int .i64 0), (.int .i64 0)]) 16 rfl Tryz.underlying29 info44 rfl (by decide) (by omega) u5 x5_1 (⟨t261, t262⟩ : S44) [.int .i64 t261, .int .i64 t262] (fun _ => True) (fun _ => False) rfl rfl ?aP (fun _ hk => hk.elim) ?aF ?aO ?aB ?aS ?aL ?_; (case aP => exact k44_mkM _ _ _ (⟨t261, t262⟩ : S44)); (case aB => exact zB); (case aF => exact (fun _ _ => trivial)); (case aO => exact (zR HO_5)); (case aS => exact (Bb5 zB)); (case aL => first | (have := LMc8.out; omega) | (have h_ := Nat.le_of_lt LMc8.out; exact h_)); intro v264 w10 ho hb hg hat; rw [← Ny263.out] at ho; have n0_ := am (hb); have n1_ := am (ho); clear HB; clear HO_5; have HB := n0_; have HO265 := n1_; clear n0_ n1_; clear ho hb hg hat))
   go_roundg k1
   case measure => have := HK1.out; omega
   case rel => exact ⟨(y263), (wrap64 (x6_1 + 1)), zS, H', ⟨by have := HK1.out; omega⟩, ⟨zR HO265⟩, ⟨zB⟩⟩

/-! ### spec_l03Forms: function 50 -/
def spec_l03Forms.l0 : Nat → List (S44) → Int → List (List (S44)) → Int → Option ((List (List (S44))))
 | 0, _, _, _, _ => none
 | k + 1, x0, x1, x5, x6 => if x6 < x1 then ((spec_l03Form.f k x0 x6).bind fun t275 => ((spec_l03Add.f k x5 t275).bind fun t278 => (spec_l03Forms.l0 k x0 x1 t278 (wrap64 (x6 + 1))))) else (some x5)
def spec_l03Forms.f (k : Nat) (l0 : List (S44)) (a1 : Int) : Option ((List (List (S44)))) := spec_l03Forms.l0 k l0 a1 (([] : List (List (S44)))) 0
theorem spec_l03Forms.mono_l : ∀ k, (∀ y0 y1 y2 y3, LeO (spec_l03Forms.l0 k y0 y1 y2 y3) (spec_l03Forms.l0 (k + 1) y0 y1 y2 y3))
 | 0 => fun _ _ _ _ r h => by simp [spec_l03Forms.l0] at h
 | k + 1 => by
  have ih0 := spec_l03Forms.mono_l k
  ·intro y0 y1 y2 y3
   unfold spec_l03Forms.l0
   with_reducible repeat' first | exact ih0 _ _ _ _ | exact spec_l03Add.mono _ _ _ | exact spec_l03Form.mono _ _ _ | exact LeO.refl _ | exact LeO.none _ | refine LeO.ite ?_ ?_ | refine LeO.bind ?_ (fun _ => ?_)
theorem spec_l03Forms.mono : ∀ a0 a1 k, LeO (spec_l03Forms.f k a0 a1) (spec_l03Forms.f (k + 1) a0 a1) := by
 intro a0 a1 k
 have ih0 := spec_l03Forms.mono_l k
 unfold spec_l03Forms.f
 with_reducible repeat' first | exact ih0 _ _ _ _ | exact spec_l03Add.mono _ _ _ | exact spec_l03Form.mono _ _ _ | exact LeO.refl _ | exact LeO.none _ | refine LeO.ite ?_ ?_ | refine LeO.bind ?_ (fun _ => ?_)
set_option maxHeartbeats 8000000 in
set_option maxRecDepth 100000 in
theorem spec_l03Forms.calls (k : Nat) (A0 : Option Addr) (c0 : Nat) (l0 : List (S44)) (a1 : Int) (r : List (List (S44))) (w : World) (hr0 : Kd.C k44 w A0 l0.length l0) (hc0 : l0.length ≤ c0) (h : spec_l03Forms.f k l0 a1 = some r) :
  Calls Tryz.prog 50 #[.slice A0 l0.length c0, .int .i64 a1] w fun e w' => ∃ v0_ : Value, e = .returned (v0_) ∧ Kd.V (Kd.slice 44 k44) 29 w' w.heap.size (fun k_ => (w.heap.size ≤ k_)) v0_ r ∧ Below w.heap.size w w' := by
 have HR0 := am hr0
 have HC0 := am hc0
 clear hr0 hc0
 have HB := am (Below.refl w.heap.size w)
 have H : (spec_l03Forms.l0 k l0 a1 (([] : List (List (S44)))) 0) = some r := h
 clear h
 obtain ⟨y272, hy272⟩ : ∃ y_ : List (List (S44)), y_ = (([] : List (List (S44)))) := ⟨_, rfl⟩
 replace H : (spec_l03Forms.l0 k l0 a1 y272 0) = some r := by first | (rw [hy272]; with_reducible exact H) | (have H2_ := (Option.bind_some _ _).symm.trans H; rw [hy272]; with_reducible exact H2_) | (have H2_ := (Option.bind_some _ _).symm.trans H; with_reducible exact H2_) | with_reducible exact H | (rw [hy272]; exact H) | exact H
 have Ny272 := am hy272
 clear hy272
 have H' := am H
 clear H
 go_enter Tryz.func50, Tryz.ntmps50
 go_wp2_with (first | ((with_reducible refine gate_dst (N := 7) rfl ?_); refine Kd.S_lit (Kd.slice 44 k44) _ 29 ?hg (N := 7) ?hd (xs := ([] : List (List (S44)))) (inner := []) (ok := fun _ => True) (okp := fun _ => True) ?hr ?hp (fun _ hk => hk) trivial (Below.refl _ _) (Nat.le_refl _) (by simp) ?_; (case hd => rfl); (case hg => rfl); (case hr => first | (go_simp; done) | (go_simp; rfl)); (case hp => exact (Reps.none _ _)); intro v273 w3 ho4 hb hg_ hnew_; clear hg_ hnew_; (first | rw [← Ny272.out] at ho4 | (simp only [Int.reduceToNat] at ho4; rw [← Ny272.out] at ho4)); have n0_ := am (Kd.S_lower (Kd.S_newM (M := fun k_ => (w.heap.size ≤ k_)) ho4 (Bb5 zB) (fun k_ h_ => h_)) (Bb5 zB)); have n1_ := am (Bb6 zB hb); clear HB; have HO274 := n0_; have HB := n1_; clear n0_ n1_; clear hb ho4))
 go_loopg [5, 6] k (fun kq v5 v6 w' => ∃ (x5_1 : List (List (S44))) (x6_1 : Int), v6 = .int .i64 x6_1 ∧ Aside0 (spec_l03Forms.l0 kq l0 a1 x5_1 x6_1 = some r) ∧ Aside0 (kq ≤ k) ∧ Aside0 (Kd.V (Kd.slice 44 k44) 29 w' w.heap.size (fun k_ => (w.heap.size ≤ k_)) v5 x5_1) ∧ Aside0 (Below w.heap.size w w'))
 case atStart => exact ⟨(y272), (0), zS, H', ⟨Nat.le_refl _⟩, ⟨Kd.S_V (by (with_reducible repeat (first | apply Kd.S_alloc | apply Kd.S_drewN | apply Kd.S_drew)); exact Kd.S_mono HO274.out (fun _ hk => hk.1))⟩, ⟨zB⟩⟩
 case round =>
  clear H'
  try clear p2
  obtain ⟨x5_1, x6_1, rfl, HA, HK1, HO_5, HB⟩ := hrel
  cases gk with
  | zero => exact absurd HA.out (by simp [spec_l03Forms.l0])
  | succ k1 =>
   have H := HA.out
   clear HA
   simp only [spec_l03Forms.l0] at H
   by_cases c5 : x6_1 < a1
   rotate_left
   ·rw [if_neg c5] at H
    have c5b0 : decide (x6_1 < a1) = false := decide_eq_false c5
    clear c5
    obtain rfl := oi H
    go_wp2
    go_ret
    exact ⟨_, zE, by (with_reducible repeat (first | apply Kd.V_alloc | apply Kd.V_drewN | apply Kd.V_drew)); exact HO_5.out, zB⟩
   rw [if_pos c5] at H
   have c5b0 : decide (x6_1 < a1) = true := decide_eq_true c5
   clear c5
   replace H := ob H
   obtain ⟨t275, A60, H⟩ := H
   (try dsimp only at H)
   have A6 := am A60
   clear A60
   replace H := ob H
   obtain ⟨t278, A70, H⟩ := H
   (try dsimp only at H)
   have A7 := am A70
   clear A70
   have H' := am H
   clear H
   go_wp2_with (first | ((with_reducible refine gate_callee (f := 69) rfl ?_); refine goesL_ (some 16) rfl rfl Tryz.func69 (by kernel_rfl) rfl #[.slice A0 l0.length c0, .int .i64 x6_1] rfl zL ?_; (with_reducible refine (spec_l03Form.calls k1 _ _ l0 x6_1 t275 _ ?side1 ?side2 A6.out).mono ?_); (case side1 => repeat (first | exact (Kd.C_below HR0.out HB.out) | (with_reducible refine Kd.C_alloc ?_ _) | (with_reducible refine Kd.C_drewN ?_ _) | (with_reducible refine Kd.C_drew ?_))); (case side2 => exact HC0.out); rintro e w8 ⟨v276, rfl, ho0, hb⟩; refine ⟨_, rfl, ?_⟩; have n0_ := am (Kd.V_elder' (by (with_reducible repeat (first | apply Kd.V_alloc | apply Kd.V_drewN | apply Kd.V_drew)); exact HO_5.out) (Kd.R_base ho0) hb); have n1_ := am (Kd.R_lower (Kd.R_newM (M := fun k_ => (w.heap.size ≤ k_)) ho0 (Bb5 zB) (fun k_ h_ => h_)) (Bb5 zB)); have n2_ := am (Bb6 zB hb); clear HO_5; clear HB; have HO_5 := n0_; have HO277 := n1_; have HB := n2_; clear n0_ n1_ n2_; (try clear hb); (try clear hb2); (try clear hk); (try clear hi); (try clear ho0); obtain ⟨Ao9, co9, eo9⟩ := Kd.V_slice HO_5.out; subst eo9; obtain ⟨Ao10, co10, eo10⟩ := Kd.R_slice HO277.out; subst eo10) | ((with_reducible refine gate_callee (f := 68) rfl ?_); refine goesL_ (some 17) rfl rfl Tryz.func68 (by kernel_rfl) rfl #[.slice Ao9 x5_1.length co9, .slice Ao10 t275.length co10] rfl zL ?_; (with_reducible refine (spec_l03Add.calls k1 (fun k_ => ((w.heap.size ≤ k_) ∧ some k_ ≠ (.slice Ao10 t275.length co10 : Value).ownBlock)) _ _ x5_1 (fun k_ => some k_ = (.slice Ao10 t275.length co10 : Value).ownBlock) _ _ t275 t278 _ ?side1 ?side2 A7.out).mono ?_); (case side1 => exact HO_5.out); (case side2 => exact Kd.R_V (Kd.R_tight rfl (HO277.out))); rintro e w11 ⟨v279, rfl, ho0, hb⟩; refine ⟨_, rfl, ?_⟩; have n0_ := am (Kd.V_below (by (with_reducible repeat (first | apply Kd.V_alloc | apply Kd.V_drewN | apply Kd.V_drew)); exact HO_5.out) hb); have n1_ := am (Kd.R_below (zR HO277) hb); have n2_ := am (Kd.V_lower (Kd.V_mono (ok' := fun k_ => (w.heap.size ≤ k_)) ho0 (fun k_ hk_ => Or.elim hk_ (fun hs_ => Or.elim hs_ (fun hs_ => hs_.1) (fun hs_ => ((HO277.out).1 k_ hs_.symm).1)) (fun hn_ => (Nat.le_trans (Bb5 zB) hn_)))) (Bb5 zB)); have n3_ := am (Bb6 zB hb); clear HO_5; clear HO277; clear HB; have HO_5 := n0_; have HO277 := n1_; have HO280 := n2_; have HB := n3_; clear n0_ n1_ n2_ n3_; (try clear hb); (try clear hb2); (try clear hk); (try clear hi); (try clear ho0)))
   go_roundg k1
   case measure => have := HK1.out; omega
   case rel => exact ⟨(t278), (wrap64 (x6_1 + 1)), zS, H', ⟨by have := HK1.out; omega⟩, ⟨by (with_reducible repeat (first | apply Kd.V_alloc | apply Kd.V_drewN | apply Kd.V_drew)); exact HO280.out⟩, ⟨zB⟩⟩

/-! ### spec_l11Forms: function 28 -/
def spec_l11Forms.f (k : Nat) (l0_0 : List (S44)) (a0_1 : Int) (a0_2 : Bool) : Option ((List (List (S44)))) := if a0_2 = true then ((spec_l03Forms.f k l0_0 8).bind fun t282 => (some t282)) else ((spec_l03Forms.f k l0_0 4).bind fun t285 => (some t285))
theorem spec_l11Forms.mono : ∀ a0 a1 a2 k, LeO (spec_l11Forms.f k a0 a1 a2) (spec_l11Forms.f (k + 1) a0 a1 a2) := by
 intro a0 a1 a2 k
 unfold spec_l11Forms.f
 with_reducible repeat' first | exact spec_l03Forms.mono _ _ _ | exact LeO.refl _ | exact LeO.none _ | refine LeO.ite ?_ ?_ | refine LeO.bind ?_ (fun _ => ?_)
set_option maxHeartbeats 8000000 in
set_option maxRecDepth 100000 in
theorem spec_l11Forms.calls (k : Nat) (A0_0 : Option Addr) (c0_0 : Nat) (l0_0 : List (S44)) (a0_1 : Int) (a0_2 : Bool) (r : List (List (S44))) (w : World) (hr0_0 : Kd.C k44 w A0_0 l0_0.length l0_0) (hc0_0 : l0_0.length ≤ c0_0) (h : spec_l11Forms.f k l0_0 a0_1 a0_2 = some r) :
  Calls Tryz.prog 28 #[.agg #[.slice A0_0 l0_0.length c0_0, .int .i64 a0_1, .bool a0_2]] w fun e w' => ∃ v0_ : Value, e = .returned (v0_) ∧ Kd.V (Kd.slice 44 k44) 29 w' w.heap.size (fun k_ => (w.heap.size ≤ k_)) v0_ r ∧ Below w.heap.size w w' := by
 have hu31 := Tryz.underlying31
 have HR0_0 := am hr0_0
 have HC0_0 := am hc0_0
 clear hr0_0 hc0_0
 have HB := am (Below.refl w.heap.size w)
 have H : (if a0_2 = true then ((spec_l03Forms.f k l0_0 8).bind fun t282 => (some t282)) else ((spec_l03Forms.f k l0_0 4).bind fun t285 => (some t285))) = some r := h
 clear h
 by_cases c2 : a0_2 = true
 ·subst c2
  have H1 : ((spec_l03Forms.f k l0_0 8).bind fun t282 => (some t282)) = some r := by first | (rw [if_pos rfl] at H; exact H) | rfl
  clear H
  have H := H1
  clear H1
  replace H := ob H
  obtain ⟨t282, A30, H⟩ := H
  replace H : (some t282) = some r := H
  have A3 := am A30
  clear A30
  obtain rfl := oi H
  go_enter Tryz.func28, Tryz.ntmps28
  go_wp2_with (first | ((with_reducible refine gate_dst (N := 1) rfl ?_); refine box_event ?hg (N := 1) ?hd (cs := #[.slice A0_0 l0_0.length c0_0, .int .i64 a0_1, .bool true]) (t := 31) ?hr ?_; (case hd => rfl); (case hg => rfl); (case hr => first | (go_simp; done) | (go_simp; rfl)); intro gb281 hg w4 hbox hb; have n0_ := am (Bb6 zB hb); have n1_ := am (hbox); have n2_ := am ((by rw [hg]; exact (Bb5 zB) : w.heap.size ≤ gb281)); have n3_ := n2_; clear HB; have HB := n0_; have BK281 := n1_; have GW281 := n2_; have GE281 := n3_; clear n0_ n1_ n2_ n3_; clear hb hbox hg; have hcz5_0 : w4.cell? ⟨gb281, 0, none⟩ = some (.slice A0_0 l0_0.length c0_0) := (kc BK281.out 0).trans rfl; have hcz5_1 : w4.cell? ⟨gb281, 1, none⟩ = some (.int .i64 a0_1) := (kc BK281.out 1).trans rfl; have hcz5_2 : w4.cell? ⟨gb281, 2, none⟩ = some (.bool true) := (kc BK281.out 2).trans rfl; have hfz5_0 := kf BK281.out 0; have hfz5_1 := kf BK281.out 1; have hfz5_2 := kf BK281.out 2) | ((with_reducible refine gate_callee (f := 50) rfl ?_); refine goesL_ (some 7) rfl rfl Tryz.func50 (by kernel_rfl) rfl #[.slice A0_0 l0_0.length c0_0, .int .i64 8] rfl zL ?_; (with_reducible refine (spec_l03Forms.calls k _ _ l0_0 8 t282 _ ?side1 ?side2 A3.out).mono ?_); (case side1 => repeat (first | exact (Kd.C_below HR0_0.out HB.out) | (with_reducible refine Kd.C_alloc ?_ _) | (with_reducible refine Kd.C_drewN ?_ _) | (with_reducible refine Kd.C_drew ?_))); (case side2 => exact HC0_0.out); rintro e w6 ⟨v283, rfl, ho0, hb⟩; refine ⟨_, rfl, ?_⟩; have n0_ := am (Kd.V_lower (Kd.V_mono (ok' := fun k_ => (w.heap.size ≤ k_) ∧ k_ ≠ gb281) ho0 (fun k_ hk_ => ⟨(Nat.le_trans (Bb5 (by repeat (first | (with_reducible first | exact HB.out | apply Bb1 | apply Bb2 | apply Bb3 | refine Bb4 ?_ GE281.out) | exact HB.out))) hk_), (Kd.freshB (g := gb281) (o := .cells #[.slice A0_0 l0_0.length c0_0, .int .i64 a0_1, .bool true] 31 (0, 0)) (zK BK281) k_ hk_)⟩)) (Bb5 (by repeat (first | (with_reducible first | exact HB.out | apply Bb1 | apply Bb2 | apply Bb3 | refine Bb4 ?_ GE281.out) | exact HB.out)))); have n1_ := am (Bk4 (g := gb281) (o := .cells #[.slice A0_0 l0_0.length c0_0, .int .i64 a0_1, .bool true] 31 (0, 0)) (zK BK281) hb); have n2_ := am (Bb6 (by repeat (first | (with_reducible first | exact HB.out | apply Bb1 | apply Bb2 | apply Bb3 | refine Bb4 ?_ GE281.out) | exact HB.out)) hb); clear BK281; clear HB; have HO284 := n0_; have BK281 := n1_; have HB := n2_; clear n0_ n1_ n2_; (try clear hb); (try clear hb2); (try clear hk); (try clear hi); (try clear ho0)))
  go_ret
  exact ⟨_, zE, by (with_reducible repeat (first | apply Kd.V_alloc | apply Kd.V_drewN | apply Kd.V_drew)); exact Kd.V_mono HO284.out (fun _ hk => hk.1), by repeat (first | (with_reducible first | exact HB.out | apply Bb1 | apply Bb2 | apply Bb3 | refine Bb4 ?_ GE281.out) | exact HB.out)⟩
 replace c2 := ef c2
 subst c2
 have H1 : ((spec_l03Forms.f k l0_0 4).bind fun t285 => (some t285)) = some r := by first | (rw [if_neg (show ¬ (false = true) by decide)] at H; exact H) | rfl
 clear H
 have H := H1
 clear H1
 replace H := ob H
 obtain ⟨t285, A70, H⟩ := H
 replace H : (some t285) = some r := H
 have A7 := am A70
 clear A70
 obtain rfl := oi H
 go_enter Tryz.func28, Tryz.ntmps28
 go_wp2_with (first | ((with_reducible refine gate_dst (N := 1) rfl ?_); refine box_event ?hg (N := 1) ?hd (cs := #[.slice A0_0 l0_0.length c0_0, .int .i64 a0_1, .bool false]) (t := 31) ?hr ?_; (case hd => rfl); (case hg => rfl); (case hr => first | (go_simp; done) | (go_simp; rfl)); intro gb281 hg w8 hbox hb; have n0_ := am (Bb6 zB hb); have n1_ := am (hbox); have n2_ := am ((by rw [hg]; exact (Bb5 zB) : w.heap.size ≤ gb281)); have n3_ := n2_; clear HB; have HB := n0_; have BK281 := n1_; have GW281 := n2_; have GE281 := n3_; clear n0_ n1_ n2_ n3_; clear hb hbox hg; have hcz9_0 : w8.cell? ⟨gb281, 0, none⟩ = some (.slice A0_0 l0_0.length c0_0) := (kc BK281.out 0).trans rfl; have hcz9_1 : w8.cell? ⟨gb281, 1, none⟩ = some (.int .i64 a0_1) := (kc BK281.out 1).trans rfl; have hcz9_2 : w8.cell? ⟨gb281, 2, none⟩ = some (.bool false) := (kc BK281.out 2).trans rfl; have hfz9_0 := kf BK281.out 0; have hfz9_1 := kf BK281.out 1; have hfz9_2 := kf BK281.out 2) | ((with_reducible refine gate_callee (f := 50) rfl ?_); refine goesL_ (some 10) rfl rfl Tryz.func50 (by kernel_rfl) rfl #[.slice A0_0 l0_0.length c0_0, .int .i64 4] rfl zL ?_; (with_reducible refine (spec_l03Forms.calls k _ _ l0_0 4 t285 _ ?side1 ?side2 A7.out).mono ?_); (case side1 => repeat (first | exact (Kd.C_below HR0_0.out HB.out) | (with_reducible refine Kd.C_alloc ?_ _) | (with_reducible refine Kd.C_drewN ?_ _) | (with_reducible refine Kd.C_drew ?_))); (case side2 => exact HC0_0.out); rintro e w10 ⟨v286, rfl, ho0, hb⟩; refine ⟨_, rfl, ?_⟩; have n0_ := am (Kd.V_lower (Kd.V_mono (ok' := fun k_ => (w.heap.size ≤ k_) ∧ k_ ≠ gb281) ho0 (fun k_ hk_ => ⟨(Nat.le_trans (Bb5 (by repeat (first | (with_reducible first | exact HB.out | apply Bb1 | apply Bb2 | apply Bb3 | refine Bb4 ?_ GE281.out) | exact HB.out))) hk_), (Kd.freshB (g := gb281) (o := .cells #[.slice A0_0 l0_0.length c0_0, .int .i64 a0_1, .bool false] 31 (0, 0)) (zK BK281) k_ hk_)⟩)) (Bb5 (by repeat (first | (with_reducible first | exact HB.out | apply Bb1 | apply Bb2 | apply Bb3 | refine Bb4 ?_ GE281.out) | exact HB.out)))); have n1_ := am (Bk4 (g := gb281) (o := .cells #[.slice A0_0 l0_0.length c0_0, .int .i64 a0_1, .bool false] 31 (0, 0)) (zK BK281) hb); have n2_ := am (Bb6 (by repeat (first | (with_reducible first | exact HB.out | apply Bb1 | apply Bb2 | apply Bb3 | refine Bb4 ?_ GE281.out) | exact HB.out)) hb); clear BK281; clear HB; have HO287 := n0_; have BK281 := n1_; have HB := n2_; clear n0_ n1_ n2_; (try clear hb); (try clear hb2); (try clear hk); (try clear hi); (try clear ho0)))
 go_ret
 exact ⟨_, zE, by (with_reducible repeat (first | apply Kd.V_alloc | apply Kd.V_drewN | apply Kd.V_drew)); exact Kd.V_mono HO287.out (fun _ hk => hk.1), by repeat (first | (with_reducible first | exact HB.out | apply Bb1 | apply Bb2 | apply Bb3 | refine Bb4 ?_ GE281.out) | exact HB.out)⟩

/-! ### spec_l26Copy: function 15 -/
abbrev spec_l26Copy.m0 : Array Bool := #[z',z',z',z',z',z',z',z']
abbrev spec_l26Copy.m1 : Array Bool := #[o',z',z',z',z',z',z',z']
abbrev spec_l26Copy.m2 : Array Bool := #[o',o',z',z',z',z',z',z']
abbrev spec_l26Copy.m3 : Array Bool := #[o',o',o',z',z',z',z',z']
abbrev spec_l26Copy.m4 : Array Bool := #[o',o',o',z',o',z',z',z']
abbrev spec_l26Copy.m5 : Array Bool := #[o',o',o',o',o',z',z',z']
abbrev spec_l26Copy.m6 : Array Bool := #[o',o',o',o',o',o',z',z']
abbrev spec_l26Copy.m7 : Array Bool := #[o',o',o',o',o',o',o',z']
abbrev spec_l26Copy.m8 : Array Bool := #[o',o',o',o',o',o',o',o']
def spec_l26Copy.l0 : Nat → List (S44) → List (List (S44)) → Int → Option (Bool)
 | 0, _, _, _ => none
 | k + 1, x1, x5, x6 => if x6 < (x5.length : Int) then (if 0 ≤ x6 then ((spec_l02Normal.f k x1).bind fun t294 => ((spec_CompareShapes.f k (rd_L4 x5 x6) t294).bind fun t297 => (if t297 = 0 then (some true) else (spec_l26Copy.l0 k x1 x5 (wrap64 (x6 + 1)))))) else (none)) else (some false)
def spec_l26Copy.f (k : Nat) (l0_0 : List (S44)) (a0_1 : Int) (a0_2 : Bool) (l1 : List (S44)) : Option (Bool) := (spec_IsShape.f k l1).bind fun t289 => (if t289 = true then ((spec_l11Forms.f k l0_0 a0_1 a0_2).bind fun t290 => (spec_l26Copy.l0 k l1 t290 0)) else (some false))
theorem spec_l26Copy.mono_l : ∀ k, (∀ y0 y1 y2, LeO (spec_l26Copy.l0 k y0 y1 y2) (spec_l26Copy.l0 (k + 1) y0 y1 y2))
 | 0 => fun _ _ _ r h => by simp [spec_l26Copy.l0] at h
 | k + 1 => by
  have ih0 := spec_l26Copy.mono_l k
  ·intro y0 y1 y2
   unfold spec_l26Copy.l0
   with_reducible repeat' first | exact ih0 _ _ _ | exact spec_CompareShapes.mono _ _ _ | exact spec_IsShape.mono _ _ | exact spec_l02Normal.mono _ _ | exact spec_l11Forms.mono _ _ _ _ | exact LeO.refl _ | exact LeO.none _ | refine LeO.ite ?_ ?_ | refine LeO.bind ?_ (fun _ => ?_)
theorem spec_l26Copy.mono : ∀ a0 a1 a2 a3 k, LeO (spec_l26Copy.f k a0 a1 a2 a3) (spec_l26Copy.f (k + 1) a0 a1 a2 a3) := by
 intro a0 a1 a2 a3 k
 have ih0 := spec_l26Copy.mono_l k
 unfold spec_l26Copy.f
 with_reducible repeat' first | exact ih0 _ _ _ | exact spec_CompareShapes.mono _ _ _ | exact spec_IsShape.mono _ _ | exact spec_l02Normal.mono _ _ | exact spec_l11Forms.mono _ _ _ _ | exact LeO.refl _ | exact LeO.none _ | refine LeO.ite ?_ ?_ | refine LeO.bind ?_ (fun _ => ?_)
def spec_l26Copy.T7 : Bool × List (List Nat × List Nat) := (true, [([], []), ([], []), ([0, 1], [0, 1]), ([2], [2]), ([], []), ([4], [4]), ([3, 5, 5], [3, 5]), ([6], [6])])
def spec_l26Copy.B7 : List Nat := [0, 0, 3, 7, 0, 16, 63, 127]
theorem spec_l26Copy.tab7 : rtab .any (opsOf Tryz.f15 7) = spec_l26Copy.T7 := by kernel_rfl
theorem spec_l26Copy.bits7 : waitsOk spec_l26Copy.T7.2 spec_l26Copy.B7 = true := by kernel_rfl
set_option maxHeartbeats 8000000 in
set_option maxRecDepth 100000 in
theorem spec_l26Copy.calls (k : Nat) (A0_0 : Option Addr) (c0_0 : Nat) (l0_0 : List (S44)) (a0_1 : Int) (a0_2 : Bool) (A1 : Option Addr) (c1 : Nat) (l1 : List (S44)) (r : Bool) (w : World) (hr0_0 : Kd.C k44 w A0_0 l0_0.length l0_0) (hc0_0 : l0_0.length ≤ c0_0) (hr1 : Kd.C k44 w A1 l1.length l1) (hc1 : l1.length ≤ c1) (h : spec_l26Copy.f k l0_0 a0_1 a0_2 l1 = some r) :
  Calls Tryz.prog 15 #[.agg #[.slice A0_0 l0_0.length c0_0, .int .i64 a0_1, .bool a0_2], .slice A1 l1.length c1] w fun e w' => e = .returned (.bool r) ∧ Below w.heap.size w w' := by
 have hu31 := Tryz.underlying31
 have HR0_0 := am hr0_0
 have HC0_0 := am hc0_0
 clear hr0_0 hc0_0
 have HR1 := am hr1
 have HC1 := am hc1
 clear hr1 hc1
 have HB := am (Below.refl w.heap.size w)
 have H : ((spec_IsShape.f k l1).bind fun t289 => (if t289 = true then ((spec_l11Forms.f k l0_0 a0_1 a0_2).bind fun t290 => (spec_l26Copy.l0 k l1 t290 0)) else (some false))) = some r := h
 clear h
 replace H := ob H
 obtain ⟨t289, A30, H⟩ := H
 (try dsimp only at H)
 have A3 := am A30
 clear A30
 by_cases c4 : t289 = true
 rotate_left
 ·replace c4 := ef c4
  subst c4
  have H1 : (some false) = some r := by first | (rw [if_neg (show ¬ (false = true) by decide)] at H; exact H) | rfl
  clear H
  have H := H1
  clear H1
  obtain rfl := oi H
  go_enter Tryz.func15, Tryz.ntmps15
  go_wp2_with (first | ((with_reducible refine gate_dst (N := 2) rfl ?_); refine box_event ?hg (N := 2) ?hd (cs := #[.slice A0_0 l0_0.length c0_0, .int .i64 a0_1, .bool a0_2]) (t := 31) ?hr ?_; (case hd => rfl); (case hg => rfl); (case hr => first | (go_simp; done) | (go_simp; rfl)); intro gb288 hg w26 hbox hb; have n0_ := am (Bb6 zB hb); have n1_ := am (hbox); have n2_ := am ((by rw [hg]; exact (Bb5 zB) : w.heap.size ≤ gb288)); have n3_ := n2_; clear HB; have HB := n0_; have BK288 := n1_; have GW288 := n2_; have GE288 := n3_; clear n0_ n1_ n2_ n3_; clear hb hbox hg) | ((with_reducible refine gate_callee (f := 27) rfl ?_); refine goesL_ (some 8) rfl rfl Tryz.func27 (by kernel_rfl) rfl #[.slice A1 l1.length c1] rfl zL ?_; (with_reducible refine (spec_IsShape.calls k _ _ l1 false _ ?side1 ?side2 A3.out).mono ?_); (case side1 => repeat (first | exact (Kd.C_below HR1.out HB.out) | (with_reducible refine Kd.C_alloc ?_ _) | (with_reducible refine Kd.C_drewN ?_ _) | (with_reducible refine Kd.C_drew ?_))); (case side2 => exact HC1.out); rintro e w27 ⟨rfl, hb⟩; refine ⟨_, rfl, ?_⟩; have n0_ := am (Bk4 (g := gb288) (o := .cells #[.slice A0_0 l0_0.length c0_0, .int .i64 a0_1, .bool a0_2] 31 (0, 0)) (zK BK288) hb); have n1_ := am (Bb6 (by repeat (first | (with_reducible first | exact HB.out | apply Bb1 | apply Bb2 | apply Bb3 | refine Bb4 ?_ GE288.out) | exact HB.out)) hb); clear BK288; clear HB; have BK288 := n0_; have HB := n1_; clear n0_ n1_; (try clear hb); (try clear hb2); (try clear hk); (try clear hi)))
  go_ret
  exact ⟨zE, by repeat (first | (with_reducible first | exact HB.out | apply Bb1 | apply Bb2 | apply Bb3 | refine Bb4 ?_ GE288.out) | exact HB.out)⟩
 subst c4
 have H1 : ((spec_l11Forms.f k l0_0 a0_1 a0_2).bind fun t290 => (spec_l26Copy.l0 k l1 t290 0)) = some r := by first | (rw [if_pos rfl] at H; exact H) | rfl
 clear H
 have H := H1
 clear H1
 replace H := ob H
 obtain ⟨t290, A50, H⟩ := H
 replace H : (spec_l26Copy.l0 k l1 t290 0) = some r := H
 have A5 := am A50
 clear A50
 have H' := am H
 clear H
 go_enter Tryz.func15, Tryz.ntmps15
 go_wp2_with (first | ((with_reducible refine gate_dst (N := 2) rfl ?_); refine box_event ?hg (N := 2) ?hd (cs := #[.slice A0_0 l0_0.length c0_0, .int .i64 a0_1, .bool a0_2]) (t := 31) ?hr ?_; (case hd => rfl); (case hg => rfl); (case hr => first | (go_simp; done) | (go_simp; rfl)); intro gb288 hg w6 hbox hb; have n0_ := am (Bb6 zB hb); have n1_ := am (hbox); have n2_ := am ((by rw [hg]; exact (Bb5 zB) : w.heap.size ≤ gb288)); have n3_ := n2_; clear HB; have HB := n0_; have BK288 := n1_; have GW288 := n2_; have GE288 := n3_; clear n0_ n1_ n2_ n3_; clear hb hbox hg) | ((with_reducible refine gate_callee (f := 27) rfl ?_); refine goesL_ (some 8) rfl rfl Tryz.func27 (by kernel_rfl) rfl #[.slice A1 l1.length c1] rfl zL ?_; (with_reducible refine (spec_IsShape.calls k _ _ l1 true _ ?side1 ?side2 A3.out).mono ?_); (case side1 => repeat (first | exact (Kd.C_below HR1.out HB.out) | (with_reducible refine Kd.C_alloc ?_ _) | (with_reducible refine Kd.C_drewN ?_ _) | (with_reducible refine Kd.C_drew ?_))); (case side2 => exact HC1.out); rintro e w7 ⟨rfl, hb⟩; refine ⟨_, rfl, ?_⟩; have n0_ := am (Bk4 (g := gb288) (o := .cells #[.slice A0_0 l0_0.length c0_0, .int .i64 a0_1, .bool a0_2] 31 (0, 0)) (zK BK288) hb); have n1_ := am (Bb6 (by repeat (first | (with_reducible first | exact HB.out | apply Bb1 | apply Bb2 | apply Bb3 | refine Bb4 ?_ GE288.out) | exact HB.out)) hb); clear BK288; clear HB; have BK288 := n0_; have HB := n1_; clear n0_ n1_; (try clear hb); (try clear hb2); (try clear hk); (try clear hi); have hcz8_0 : w7.cell? ⟨gb288, 0, none⟩ = some (.slice A0_0 l0_0.length c0_0) := (kc BK288.out 0).trans rfl; have hcz8_1 : w7.cell? ⟨gb288, 1, none⟩ = some (.int .i64 a0_1) := (kc BK288.out 1).trans rfl; have hcz8_2 : w7.cell? ⟨gb288, 2, none⟩ = some (.bool a0_2) := (kc BK288.out 2).trans rfl; have hfz8_0 := kf BK288.out 0; have hfz8_1 := kf BK288.out 1; have hfz8_2 := kf BK288.out 2) | ((with_reducible refine gate_callee (f := 28) rfl ?_); refine goesL_ (some 11) rfl rfl Tryz.func28 (by kernel_rfl) rfl #[.agg #[.slice A0_0 l0_0.length c0_0, .int .i64 a0_1, .bool a0_2]] rfl zL ?_; (with_reducible refine (spec_l11Forms.calls k _ _ l0_0 a0_1 a0_2 t290 _ ?side1 ?side2 A5.out).mono ?_); (case side1 => repeat (first | exact (Kd.C_below HR0_0.out HB.out) | (with_reducible refine Kd.C_alloc ?_ _) | (with_reducible refine Kd.C_drewN ?_ _) | (with_reducible refine Kd.C_drew ?_))); (case side2 => exact HC0_0.out); rintro e w9 ⟨v291, rfl, ho0, hb⟩; refine ⟨_, rfl, ?_⟩; have n0_ := am (Kd.V_lower (Kd.V_mono (ok' := fun k_ => k_ ≠ gb288) ho0 (fun k_ hk_ => (Kd.freshB (g := gb288) (o := .cells #[.slice A0_0 l0_0.length c0_0, .int .i64 a0_1, .bool a0_2] 31 (0, 0)) (zK BK288) k_ hk_))) (Bb5 (by repeat (first | (with_reducible first | exact HB.out | apply Bb1 | apply Bb2 | apply Bb3 | refine Bb4 ?_ GE288.out) | exact HB.out)))); have n1_ := am (Bk4 (g := gb288) (o := .cells #[.slice A0_0 l0_0.length c0_0, .int .i64 a0_1, .bool a0_2] 31 (0, 0)) (zK BK288) hb); have n2_ := am (Bb6 (by repeat (first | (with_reducible first | exact HB.out | apply Bb1 | apply Bb2 | apply Bb3 | refine Bb4 ?_ GE288.out) | exact HB.out)) hb); clear BK288; clear HB; have HO292 := n0_; have BK288 := n1_; have HB := n2_; clear n0_ n1_ n2_; (try clear hb); (try clear hb2); (try clear hk); (try clear hi); (try clear ho0)))
 go_loopg [6] k (fun kq v6 w' => ∃ (x6_1 : Int), v6 = .int .i64 x6_1 ∧ Aside0 (spec_l26Copy.l0 kq l1 t290 x6_1 = some r) ∧ Aside0 (kq ≤ k) ∧ Aside0 (Kd.V (Kd.slice 44 k44) 29 w' w.heap.size (fun k_ => k_ ≠ gb288) v291 t290) ∧ Aside0 (w'.heap[gb288]? = some (.cells #[(.slice A0_0 l0_0.length c0_0), .int .i64 a0_1, .bool a0_2] 31 (0, 0))) ∧ Aside0 (Below w.heap.size w w'))
 case atStart => exact ⟨(0), zS, H', ⟨Nat.le_refl _⟩, ⟨by (with_reducible repeat (first | apply Kd.V_alloc | apply Kd.V_drewN | apply Kd.V_drew)); exact HO292.out⟩, ⟨zK BK288⟩, ⟨by repeat (first | (with_reducible first | exact HB.out | apply Bb1 | apply Bb2 | apply Bb3 | refine Bb4 ?_ GE288.out) | exact HB.out)⟩⟩
 case round =>
  clear H'
  try clear c1
  try clear c2
  try clear p2
  try clear c4
  try clear hcz8_0
  try clear hcz8_1
  try clear hcz8_2
  try clear hfz8_0
  try clear hfz8_1
  try clear hfz8_2
  obtain ⟨x6_1, rfl, HA, HK1, HO_5, BK288, HB⟩ := hrel
  cases gk with
  | zero => exact absurd HA.out (by simp [spec_l26Copy.l0])
  | succ k1 =>
   have H := HA.out
   clear HA
   simp only [spec_l26Copy.l0] at H
   by_cases c10 : x6_1 < (t290.length : Int)
   rotate_left
   ·rw [if_neg c10] at H
    have c10b0 : decide (x6_1 < (t290.length : Int)) = false := decide_eq_false c10
    clear c10
    obtain rfl := oi H
    obtain ⟨Ao25, co25, eo25⟩ := Kd.V_slice HO_5.out
    subst eo25
    go_wp2
    go_ret
    exact ⟨zE, by repeat (first | (with_reducible first | exact HB.out | apply Bb1 | apply Bb2 | apply Bb3 | refine Bb4 ?_ GE288.out) | exact HB.out)⟩
   rw [if_pos c10] at H
   have c10b0 : decide (x6_1 < (t290.length : Int)) = true := decide_eq_true c10
   clear c10
   by_cases c11 : 0 ≤ x6_1
   rotate_left
   ·rw [if_neg c11] at H
    exact absurd H (by simp)
   rw [if_pos c11] at H
   have c11b0 : decide (0 ≤ x6_1) = true := decide_eq_true c11
   clear c11
   replace H := ob H
   obtain ⟨t294, A120, H⟩ := H
   (try dsimp only at H)
   have A12 := am A120
   clear A120
   replace H := ob H
   obtain ⟨t297, A130, H⟩ := H
   (try dsimp only at H)
   have A13 := am A130
   clear A130
   by_cases c14 : t297 = 0
   ·rw [if_pos c14] at H
    have c14b0 : (t297 == 0) = true := beq_iff_eq.mpr c14
    have c14b1 : (t297 != 0) = false := bne_eq_false_iff_eq.mpr c14
    clear c14
    obtain rfl := oi H
    obtain ⟨Ao15, co15, eo15⟩ := Kd.V_slice HO_5.out
    subst eo15
    try go_wp2
    have n0_ := am (Kd.V_drew HO_5.out)
    have n1_ := am (Bk3 BK288.out)
    have n2_ := am (Bb3 HB.out)
    clear HO_5
    clear BK288
    clear HB
    have HO_5 := n0_
    have BK288 := n1_
    have HB := n2_
    clear n0_ n1_ n2_
    have p293 : 0 ≤ (x6_1 : Int) := zD
    have q293 : x6_1 < (t290.length : Int) := zD
    obtain ⟨ad293, A293_0, c293_0, e293, hx293_0, hl293_0, hi293_0⟩ := at_L4 (Kd.V_reads' HO_5.out).2.2 x6_1 p293 q293
    cases e293
    obtain ⟨ce293, hce293, hMe293, hcc293⟩ := Kd.V_get HO_5.out [] x6_1 p293 (by first | exact q293 | exact zD | (have e_ := (Kd.V_reads' HO_5.out).1; omega))
    obtain ⟨ua293_0, uc293_0, rfl, ul293_0, ge293_0⟩ := Kd.FK_slice_open hMe293
    have hv293_0 := hcc293 0 _ rfl
    rw [Nat.add_zero, show ((Kd.slice 44 k44)).sz = 1 from rfl, Nat.mul_one] at hv293_0
    replace hv293_0 := oi (hv293_0.symm.trans hx293_0)
    injection hv293_0 with hva_ hvn_ hvc_
    rw [hva_] at ge293_0
    rw [hvc_] at ul293_0
    have HL293_0 := am (show Kd.V k44 44 _ w.heap.size _ _ (rd_L4 t290 x6_1) from Kd.V_mk ul293_0 ge293_0)
    clear hva_ hvn_ hvc_ ge293_0 ul293_0
    clear hcc293 hce293
    have HR293_0 := am hi293_0
    have HC293_0 := am hl293_0
    clear hi293_0 hl293_0
    replace p293 := eq_true p293
    replace q293 := eq_true q293
    refine start_ (n := 8) (S := fun w' => w'.cell? (ad293.add (x6_1).toNat) = some (.slice A293_0 (rd_L4 t290 x6_1).length c293_0)) (ds := []) spec_l26Copy.m0 (by kernel_rfl) rfl rfl (hx293_0) (fun hHeld => ?_); refine with_tabW spec_l26Copy.tab7 spec_l26Copy.bits7 (fun HT_ HW_ => ?_)
    generalize wr.drew = w16 at HO_5 BK288 HB HL293_0 HR293_0 hx293_0 hHeld ⊢
    refine pure_ (i := 0) (N := some 18) (v := ?_) (a' := ?_) spec_l26Copy.m1 rfl rfl zA (fun _ _ _ h => h) (Or.inl ⟨by rfl, ?_⟩) ?_ ?_
    rotate_left
    ·intro w'
     go_simp
     rfl
    rotate_left
    ·exact zP
    refine pure_ (i := 1) (N := some 19) (v := ?_) (a' := ?_) spec_l26Copy.m2 rfl rfl zA (fun _ _ _ h => h) (Or.inl ⟨by rfl, ?_⟩) ?_ ?_
    rotate_left
    ·intro w'
     go_simp
     rfl
    rotate_left
    ·exact zP
    refine pure_ (i := 2) (N := some 20) (v := ?_) (a' := ?_) spec_l26Copy.m3 rfl rfl zA (fun _ _ _ h => h) (Or.inl ⟨by rfl, ?_⟩) ?_ ?_
    rotate_left
    ·intro w'
     go_simp
     rfl
    rotate_left
    ·exact zP
    refine pure_ (i := 4) (N := some 22) (v := ?_) (a' := ?_) spec_l26Copy.m4 rfl rfl zA (fun _ _ _ h => h) (Or.inl ⟨by rfl, ?_⟩) ?_ ?_
    rotate_left
    ·intro w'
     go_simp
     rfl
    rotate_left
    ·exact zP
    refine take_ (i := 3) (N := some 21) (v := ?_) (a' := ?_) spec_l26Copy.m5 rfl rfl (take_ofW HT_.out HW_.out (by kernel_rfl)) (fun _ _ _ h => h) (Or.inl ⟨by rfl, ?_⟩) hHeld ?_ ?_
    rotate_left
    ·intro w' s0
     go_simp
     rfl
    rotate_left
    ·exact zP
    refine one_ (i := 5) (N := some 23) spec_l26Copy.m6 rfl rfl (one_of HT_.out (by kernel_rfl)) (by decide) (fun K hK => ?_)
    refine goes_ Tryz.func30 (by kernel_rfl) rfl #[.slice A1 l1.length c1] (by rfl) rfl rfl zL ?_
    with_reducible refine (spec_l02Normal.calls k1 _ _ l1 t294 _ ?side1 ?side2 A12.out).mono ?_
    (case side1 => repeat (first | exact (Kd.C_below HR1.out HB.out) | (with_reducible refine Kd.C_alloc ?_ _) | (with_reducible refine Kd.C_drewN ?_ _) | (with_reducible refine Kd.C_drew ?_)))
    (case side2 => exact HC1.out)
    rintro e w17 ⟨v295, rfl, ho0, hb⟩
    have HS0_ := (hb.cell (World.block_lt_of_cell? _ _ (hHeld))).trans (hHeld)
    refine ⟨_, rfl, ?_⟩
    have n0_ := am (Kd.V_elder' (by (with_reducible repeat (first | apply Kd.V_alloc | apply Kd.V_drewN | apply Kd.V_drew)); exact HO_5.out) (Kd.R_base ho0) hb)
    have n1_ := am (Kd.V_elder' (by (with_reducible repeat (first | apply Kd.V_alloc | apply Kd.V_drewN | apply Kd.V_drew)); exact HL293_0.out) (Kd.R_base ho0) hb)
    have n2_ := am (Kd.R_lower ho0 (Bb5 (by repeat (first | (with_reducible first | exact HB.out | apply Bb1 | apply Bb2 | apply Bb3 | refine Bb4 ?_ GE288.out) | exact HB.out))))
    have n3_ := am (Bk4 (g := gb288) (o := .cells #[.slice A0_0 l0_0.length c0_0, .int .i64 a0_1, .bool a0_2] 31 (0, 0)) (zK BK288) hb)
    have n4_ := am (Kd.C_below (by repeat (first | (with_reducible exact HR293_0.out) | (with_reducible refine Kd.C_alloc ?_ _) | (with_reducible refine Kd.C_drewN ?_ _) | (with_reducible refine Kd.C_drew ?_) | exact HR293_0.out)) hb)
    have n5_ := am (Bb6 (by repeat (first | (with_reducible first | exact HB.out | apply Bb1 | apply Bb2 | apply Bb3 | refine Bb4 ?_ GE288.out) | exact HB.out)) hb)
    clear HO_5
    clear HL293_0
    clear BK288
    clear HR293_0
    clear HB
    have HO_5 := n0_
    have HL293_0 := n1_
    have HO296 := n2_
    have BK288 := n3_
    have HR293_0 := n4_
    have HB := n5_
    clear n0_ n1_ n2_ n3_ n4_ n5_
    (try clear hb)
    (try clear hb2)
    (try clear hk)
    (try clear hi)
    (try clear ho0)
    obtain ⟨Ao18, co18, eo18⟩ := Kd.R_slice HO296.out
    (first | subst eo18 | (injection eo18 with f1_ f2_ f3_; have f4_ := f1_.symm; have f5_ := f3_.symm; clear f1_ f2_ f3_; subst f4_; subst f5_))
    refine hK.out _ _ (HS0_) (fun hHeld => ?_)
    clear hK K
    refine norm_ (a' := ?_) ?_ ?_
    rotate_left
    ·show Act.put _ (some 23) _ = _
     simp only [Act.put, sa, i64_w, i32_w]
     rfl
    refine one_ (i := 6) (N := some 24) spec_l26Copy.m7 rfl rfl (one_of HT_.out (by kernel_rfl)) (by decide) (fun K hK => ?_)
    refine goes_ Tryz.func29 (by kernel_rfl) rfl #[.slice A293_0 (rd_L4 t290 x6_1).length c293_0, .slice Ao18 t294.length co18] (by rfl) rfl rfl zL ?_
    with_reducible refine (spec_CompareShapes.calls k1 _ _ (rd_L4 t290 x6_1) _ _ t294 t297 _ ?side1 ?side2 ?side3 ?side4 A13.out).mono ?_
    (case side1 => repeat (first | exact (by repeat (first | (with_reducible exact HR293_0.out) | (with_reducible refine Kd.C_alloc ?_ _) | (with_reducible refine Kd.C_drewN ?_ _) | (with_reducible refine Kd.C_drew ?_) | exact HR293_0.out)) | (with_reducible refine Kd.C_alloc ?_ _) | (with_reducible refine Kd.C_drewN ?_ _) | (with_reducible refine Kd.C_drew ?_)))
    (case side2 => exact HC293_0.out)
    (case side3 => repeat (first | exact (Kd.R_reads' HO296.out).2.2 | (with_reducible refine Kd.C_alloc ?_ _) | (with_reducible refine Kd.C_drewN ?_ _) | (with_reducible refine Kd.C_drew ?_)))
    (case side4 => exact (Kd.R_reads' HO296.out).2.1)
    rintro e w19 ⟨rfl, hb⟩
    have HS0_ := (hb.cell (World.block_lt_of_cell? _ _ (hHeld))).trans (hHeld)
    refine ⟨_, rfl, ?_⟩
    have n0_ := am (Kd.V_below (by (with_reducible repeat (first | apply Kd.V_alloc | apply Kd.V_drewN | apply Kd.V_drew)); exact HO_5.out) hb)
    have n1_ := am (Kd.V_below (by (with_reducible repeat (first | apply Kd.V_alloc | apply Kd.V_drewN | apply Kd.V_drew)); exact HL293_0.out) hb)
    have n2_ := am (Kd.R_below (zR HO296) hb)
    have n3_ := am (Bk4 (g := gb288) (o := .cells #[.slice A0_0 l0_0.length c0_0, .int .i64 a0_1, .bool a0_2] 31 (0, 0)) (zK BK288) hb)
    have n4_ := am (Kd.C_below (by repeat (first | (with_reducible exact HR293_0.out) | (with_reducible refine Kd.C_alloc ?_ _) | (with_reducible refine Kd.C_drewN ?_ _) | (with_reducible refine Kd.C_drew ?_) | exact HR293_0.out)) hb)
    have n5_ := am (Bb6 (by repeat (first | (with_reducible first | exact HB.out | apply Bb1 | apply Bb2 | apply Bb3 | refine Bb4 ?_ GE288.out) | exact HB.out)) hb)
    clear HO_5
    clear HL293_0
    clear HO296
    clear BK288
    clear HR293_0
    clear HB
    have HO_5 := n0_
    have HL293_0 := n1_
    have HO296 := n2_
    have BK288 := n3_
    have HR293_0 := n4_
    have HB := n5_
    clear n0_ n1_ n2_ n3_ n4_ n5_
    (try clear hb)
    (try clear hb2)
    (try clear hk)
    (try clear hi)
    refine hK.out _ _ (HS0_) (fun hHeld => ?_)
    clear hK K
    refine norm_ (a' := ?_) ?_ ?_
    rotate_left
    ·show Act.put _ (some 24) _ = _
     simp only [Act.put, sa, i64_w, i32_w]
     rfl
    refine pure_ (i := 7) (N := some 25) (v := ?_) (a' := ?_) spec_l26Copy.m8 rfl rfl zA (fun _ _ _ h => h) (Or.inl ⟨by rfl, ?_⟩) ?_ ?_
    rotate_left
    ·intro w'
     go_simp
     rfl
    rotate_left
    ·exact zP
    refine done_ (done_of HT_.out (by kernel_rfl)) ?_
    try go_wp2
    go_ret
    exact ⟨zE, by repeat (first | (with_reducible first | exact HB.out | apply Bb1 | apply Bb2 | apply Bb3 | refine Bb4 ?_ GE288.out) | exact HB.out)⟩
   rw [if_neg c14] at H
   have c14b0 : (t297 == 0) = false := beq_eq_false_iff_ne.mpr c14
   have c14b1 : (t297 != 0) = true := bne_iff_ne.mpr c14
   have H' := am H
   clear H
   obtain ⟨Ao20, co20, eo20⟩ := Kd.V_slice HO_5.out
   subst eo20
   try go_wp2
   have n0_ := am (Kd.V_drew HO_5.out)
   have n1_ := am (Bk3 BK288.out)
   have n2_ := am (Bb3 HB.out)
   clear HO_5
   clear BK288
   clear HB
   have HO_5 := n0_
   have BK288 := n1_
   have HB := n2_
   clear n0_ n1_ n2_
   have p293 : 0 ≤ (x6_1 : Int) := zD
   have q293 : x6_1 < (t290.length : Int) := zD
   obtain ⟨ad293, A293_0, c293_0, e293, hx293_0, hl293_0, hi293_0⟩ := at_L4 (Kd.V_reads' HO_5.out).2.2 x6_1 p293 q293
   cases e293
   obtain ⟨ce293, hce293, hMe293, hcc293⟩ := Kd.V_get HO_5.out [] x6_1 p293 (by first | exact q293 | exact zD | (have e_ := (Kd.V_reads' HO_5.out).1; omega))
   obtain ⟨ua293_0, uc293_0, rfl, ul293_0, ge293_0⟩ := Kd.FK_slice_open hMe293
   have hv293_0 := hcc293 0 _ rfl
   rw [Nat.add_zero, show ((Kd.slice 44 k44)).sz = 1 from rfl, Nat.mul_one] at hv293_0
   replace hv293_0 := oi (hv293_0.symm.trans hx293_0)
   injection hv293_0 with hva_ hvn_ hvc_
   rw [hva_] at ge293_0
   rw [hvc_] at ul293_0
   have HL293_0 := am (show Kd.V k44 44 _ w.heap.size _ _ (rd_L4 t290 x6_1) from Kd.V_mk ul293_0 ge293_0)
   clear hva_ hvn_ hvc_ ge293_0 ul293_0
   clear hcc293 hce293
   have HR293_0 := am hi293_0
   have HC293_0 := am hl293_0
   clear hi293_0 hl293_0
   replace p293 := eq_true p293
   replace q293 := eq_true q293
   refine start_ (n := 8) (S := fun w' => w'.cell? (ad293.add (x6_1).toNat) = some (.slice A293_0 (rd_L4 t290 x6_1).length c293_0)) (ds := []) spec_l26Copy.m0 (by kernel_rfl) rfl rfl (hx293_0) (fun hHeld => ?_); refine with_tabW spec_l26Copy.tab7 spec_l26Copy.bits7 (fun HT_ HW_ => ?_)
   generalize wr.drew = w21 at HO_5 BK288 HB HL293_0 HR293_0 hx293_0 hHeld ⊢
   refine pure_ (i := 0) (N := some 18) (v := ?_) (a' := ?_) spec_l26Copy.m1 rfl rfl zA (fun _ _ _ h => h) (Or.inl ⟨by rfl, ?_⟩) ?_ ?_
   rotate_left
   ·intro w'
    go_simp
    rfl
   rotate_left
   ·exact zP
   refine pure_ (i := 1) (N := some 19) (v := ?_) (a' := ?_) spec_l26Copy.m2 rfl rfl zA (fun _ _ _ h => h) (Or.inl ⟨by rfl, ?_⟩) ?_ ?_
   rotate_left
   ·intro w'
    go_simp
    rfl
   rotate_left
   ·exact zP
   refine pure_ (i := 2) (N := some 20) (v := ?_) (a' := ?_) spec_l26Copy.m3 rfl rfl zA (fun _ _ _ h => h) (Or.inl ⟨by rfl, ?_⟩) ?_ ?_
   rotate_left
   ·intro w'
    go_simp
    rfl
   rotate_left
   ·exact zP
   refine pure_ (i := 4) (N := some 22) (v := ?_) (a' := ?_) spec_l26Copy.m4 rfl rfl zA (fun _ _ _ h => h) (Or.inl ⟨by rfl, ?_⟩) ?_ ?_
   rotate_left
   ·intro w'
    go_simp
    rfl
   rotate_left
   ·exact zP
   refine take_ (i := 3) (N := some 21) (v := ?_) (a' := ?_) spec_l26Copy.m5 rfl rfl (take_ofW HT_.out HW_.out (by kernel_rfl)) (fun _ _ _ h => h) (Or.inl ⟨by rfl, ?_⟩) hHeld ?_ ?_
   rotate_left
   ·intro w' s0
    go_simp
    rfl
   rotate_left
   ·exact zP
   refine one_ (i := 5) (N := some 23) spec_l26Copy.m6 rfl rfl (one_of HT_.out (by kernel_rfl)) (by decide) (fun K hK => ?_)
   refine goes_ Tryz.func30 (by kernel_rfl) rfl #[.slice A1 l1.length c1] (by rfl) rfl rfl zL ?_
   with_reducible refine (spec_l02Normal.calls k1 _ _ l1 t294 _ ?side1 ?side2 A12.out).mono ?_
   (case side1 => repeat (first | exact (Kd.C_below HR1.out HB.out) | (with_reducible refine Kd.C_alloc ?_ _) | (with_reducible refine Kd.C_drewN ?_ _) | (with_reducible refine Kd.C_drew ?_)))
   (case side2 => exact HC1.out)
   rintro e w22 ⟨v295, rfl, ho0, hb⟩
   have HS0_ := (hb.cell (World.block_lt_of_cell? _ _ (hHeld))).trans (hHeld)
   refine ⟨_, rfl, ?_⟩
   have n0_ := am (Kd.V_elder' (by (with_reducible repeat (first | apply Kd.V_alloc | apply Kd.V_drewN | apply Kd.V_drew)); exact HO_5.out) (Kd.R_base ho0) hb)
   have n1_ := am (Kd.V_elder' (by (with_reducible repeat (first | apply Kd.V_alloc | apply Kd.V_drewN | apply Kd.V_drew)); exact HL293_0.out) (Kd.R_base ho0) hb)
   have n2_ := am (Kd.R_lower ho0 (Bb5 (by repeat (first | (with_reducible first | exact HB.out | apply Bb1 | apply Bb2 | apply Bb3 | refine Bb4 ?_ GE288.out) | exact HB.out))))
   have n3_ := am (Bk4 (g := gb288) (o := .cells #[.slice A0_0 l0_0.length c0_0, .int .i64 a0_1, .bool a0_2] 31 (0, 0)) (zK BK288) hb)
   have n4_ := am (Kd.C_below (by repeat (first | (with_reducible exact HR293_0.out) | (with_reducible refine Kd.C_alloc ?_ _) | (with_reducible refine Kd.C_drewN ?_ _) | (with_reducible refine Kd.C_drew ?_) | exact HR293_0.out)) hb)
   have n5_ := am (Bb6 (by repeat (first | (with_reducible first | exact HB.out | apply Bb1 | apply Bb2 | apply Bb3 | refine Bb4 ?_ GE288.out) | exact HB.out)) hb)
   clear HO_5
   clear HL293_0
   clear BK288
   clear HR293_0
   clear HB
   have HO_5 := n0_
   have HL293_0 := n1_
   have HO296 := n2_
   have BK288 := n3_
   have HR293_0 := n4_
   have HB := n5_
   clear n0_ n1_ n2_ n3_ n4_ n5_
   (try clear hb)
   (try clear hb2)
   (try clear hk)
   (try clear hi)
   (try clear ho0)
   obtain ⟨Ao23, co23, eo23⟩ := Kd.R_slice HO296.out
   (first | subst eo23 | (injection eo23 with f1_ f2_ f3_; have f4_ := f1_.symm; have f5_ := f3_.symm; clear f1_ f2_ f3_; subst f4_; subst f5_))
   refine hK.out _ _ (HS0_) (fun hHeld => ?_)
   clear hK K
   refine norm_ (a' := ?_) ?_ ?_
   rotate_left
   ·show Act.put _ (some 23) _ = _
    simp only [Act.put, sa, i64_w, i32_w]
    rfl
   refine one_ (i := 6) (N := some 24) spec_l26Copy.m7 rfl rfl (one_of HT_.out (by kernel_rfl)) (by decide) (fun K hK => ?_)
   refine goes_ Tryz.func29 (by kernel_rfl) rfl #[.slice A293_0 (rd_L4 t290 x6_1).length c293_0, .slice Ao23 t294.length co23] (by rfl) rfl rfl zL ?_
   with_reducible refine (spec_CompareShapes.calls k1 _ _ (rd_L4 t290 x6_1) _ _ t294 t297 _ ?side1 ?side2 ?side3 ?side4 A13.out).mono ?_
   (case side1 => repeat (first | exact (by repeat (first | (with_reducible exact HR293_0.out) | (with_reducible refine Kd.C_alloc ?_ _) | (with_reducible refine Kd.C_drewN ?_ _) | (with_reducible refine Kd.C_drew ?_) | exact HR293_0.out)) | (with_reducible refine Kd.C_alloc ?_ _) | (with_reducible refine Kd.C_drewN ?_ _) | (with_reducible refine Kd.C_drew ?_)))
   (case side2 => exact HC293_0.out)
   (case side3 => repeat (first | exact (Kd.R_reads' HO296.out).2.2 | (with_reducible refine Kd.C_alloc ?_ _) | (with_reducible refine Kd.C_drewN ?_ _) | (with_reducible refine Kd.C_drew ?_)))
   (case side4 => exact (Kd.R_reads' HO296.out).2.1)
   rintro e w24 ⟨rfl, hb⟩
   have HS0_ := (hb.cell (World.block_lt_of_cell? _ _ (hHeld))).trans (hHeld)
   refine ⟨_, rfl, ?_⟩
   have n0_ := am (Kd.V_below (by (with_reducible repeat (first | apply Kd.V_alloc | apply Kd.V_drewN | apply Kd.V_drew)); exact HO_5.out) hb)
   have n1_ := am (Kd.V_below (by (with_reducible repeat (first | apply Kd.V_alloc | apply Kd.V_drewN | apply Kd.V_drew)); exact HL293_0.out) hb)
   have n2_ := am (Kd.R_below (zR HO296) hb)
   have n3_ := am (Bk4 (g := gb288) (o := .cells #[.slice A0_0 l0_0.length c0_0, .int .i64 a0_1, .bool a0_2] 31 (0, 0)) (zK BK288) hb)
   have n4_ := am (Kd.C_below (by repeat (first | (with_reducible exact HR293_0.out) | (with_reducible refine Kd.C_alloc ?_ _) | (with_reducible refine Kd.C_drewN ?_ _) | (with_reducible refine Kd.C_drew ?_) | exact HR293_0.out)) hb)
   have n5_ := am (Bb6 (by repeat (first | (with_reducible first | exact HB.out | apply Bb1 | apply Bb2 | apply Bb3 | refine Bb4 ?_ GE288.out) | exact HB.out)) hb)
   clear HO_5
   clear HL293_0
   clear HO296
   clear BK288
   clear HR293_0
   clear HB
   have HO_5 := n0_
   have HL293_0 := n1_
   have HO296 := n2_
   have BK288 := n3_
   have HR293_0 := n4_
   have HB := n5_
   clear n0_ n1_ n2_ n3_ n4_ n5_
   (try clear hb)
   (try clear hb2)
   (try clear hk)
   (try clear hi)
   refine hK.out _ _ (HS0_) (fun hHeld => ?_)
   clear hK K
   refine norm_ (a' := ?_) ?_ ?_
   rotate_left
   ·show Act.put _ (some 24) _ = _
    simp only [Act.put, sa, i64_w, i32_w]
    rfl
   refine pure_ (i := 7) (N := some 25) (v := ?_) (a' := ?_) spec_l26Copy.m8 rfl rfl zA (fun _ _ _ h => h) (Or.inl ⟨by rfl, ?_⟩) ?_ ?_
   rotate_left
   ·intro w'
    go_simp
    rfl
   rotate_left
   ·exact zP
   refine done_ (done_of HT_.out (by kernel_rfl)) ?_
   try go_wp2
   go_roundg k1
   case measure => have := HK1.out; omega
   case rel => exact ⟨(wrap64 (x6_1 + 1)), zS, H', ⟨by have := HK1.out; omega⟩, ⟨by (with_reducible repeat (first | apply Kd.V_alloc | apply Kd.V_drewN | apply Kd.V_drew)); exact Kd.V_mono HO_5.out (fun _ hk => hk.1)⟩, ⟨zK BK288⟩, ⟨by repeat (first | (with_reducible first | exact HB.out | apply Bb1 | apply Bb2 | apply Bb3 | refine Bb4 ?_ GE288.out) | exact HB.out)⟩⟩

/-! ### spec_l02Meet: function 16 -/
def spec_l02Meet.l0 : Nat → List (S44) → List (S44) → Int → Option (Bool)
 | 0, _, _, _ => none
 | k + 1, x0, x1, x5 => if x5 < (x0.length : Int) then (if 0 ≤ x5 then ((spec_l02Index.f k x1 ((rd_T44 x0 x5).f0) ((rd_T44 x0 x5).f1)).bind fun t299 => (if t299 ≥ 0 then (some true) else (spec_l02Meet.l0 k x0 x1 (wrap64 (x5 + 1))))) else (none)) else (some false)
def spec_l02Meet.f (k : Nat) (l0 : List (S44)) (l1 : List (S44)) : Option (Bool) := spec_l02Meet.l0 k l0 l1 0
theorem spec_l02Meet.mono_l : ∀ k, (∀ y0 y1 y2, LeO (spec_l02Meet.l0 k y0 y1 y2) (spec_l02Meet.l0 (k + 1) y0 y1 y2))
 | 0 => fun _ _ _ r h => by simp [spec_l02Meet.l0] at h
 | k + 1 => by
  have ih0 := spec_l02Meet.mono_l k
  ·intro y0 y1 y2
   unfold spec_l02Meet.l0
   with_reducible repeat' first | exact ih0 _ _ _ | exact spec_l02Index.mono _ _ _ _ | exact LeO.refl _ | exact LeO.none _ | refine LeO.ite ?_ ?_ | refine LeO.bind ?_ (fun _ => ?_)
theorem spec_l02Meet.mono : ∀ a0 a1 k, LeO (spec_l02Meet.f k a0 a1) (spec_l02Meet.f (k + 1) a0 a1) := by
 intro a0 a1 k
 have ih0 := spec_l02Meet.mono_l k
 unfold spec_l02Meet.f
 with_reducible repeat' first | exact ih0 _ _ _ | exact spec_l02Index.mono _ _ _ _ | exact LeO.refl _ | exact LeO.none _ | refine LeO.ite ?_ ?_ | refine LeO.bind ?_ (fun _ => ?_)
set_option maxHeartbeats 8000000 in
set_option maxRecDepth 100000 in
theorem spec_l02Meet.calls (k : Nat) (A0 : Option Addr) (c0 : Nat) (l0 : List (S44)) (A1 : Option Addr) (c1 : Nat) (l1 : List (S44)) (r : Bool) (w : World) (hr0 : Kd.C k44 w A0 l0.length l0) (hc0 : l0.length ≤ c0) (hr1 : Kd.C k44 w A1 l1.length l1) (hc1 : l1.length ≤ c1) (h : spec_l02Meet.f k l0 l1 = some r) :
  Calls Tryz.prog 16 #[.slice A0 l0.length c0, .slice A1 l1.length c1] w fun e w' => e = .returned (.bool r) ∧ Below w.heap.size w w' := by
 have hu44 := Tryz.underlying44
 have HR0 := am hr0
 have HC0 := am hc0
 clear hr0 hc0
 have HR1 := am hr1
 have HC1 := am hc1
 clear hr1 hc1
 have HB := am (Below.refl w.heap.size w)
 have H : (spec_l02Meet.l0 k l0 l1 0) = some r := h
 clear h
 have H' := am H
 clear H
 go_enter Tryz.func16, Tryz.ntmps16
 go_wp2
 go_loopg [5] k (fun kq v5 w' => ∃ (x5_1 : Int), v5 = .int .i64 x5_1 ∧ Aside0 (spec_l02Meet.l0 kq l0 l1 x5_1 = some r) ∧ Aside0 (kq ≤ k) ∧ Aside0 (Below w.heap.size w w'))
 case atStart => exact ⟨(0), zS, H', ⟨Nat.le_refl _⟩, ⟨zB⟩⟩
 case round =>
  clear H'
  try clear c1
  try clear p2
  obtain ⟨x5_1, rfl, HA, HK1, HB⟩ := hrel
  cases gk with
  | zero => exact absurd HA.out (by simp [spec_l02Meet.l0])
  | succ k1 =>
   have H := HA.out
   clear HA
   simp only [spec_l02Meet.l0] at H
   by_cases c3 : x5_1 < (l0.length : Int)
   rotate_left
   ·rw [if_neg c3] at H
    have c3b0 : decide (x5_1 < (l0.length : Int)) = false := decide_eq_false c3
    clear c3
    obtain rfl := oi H
    go_wp2
    go_ret
    exact ⟨zE, zB⟩
   rw [if_pos c3] at H
   have c3b0 : decide (x5_1 < (l0.length : Int)) = true := decide_eq_true c3
   clear c3
   by_cases c4 : 0 ≤ x5_1
   rotate_left
   ·rw [if_neg c4] at H
    exact absurd H (by simp)
   rw [if_pos c4] at H
   have c4b0 : decide (0 ≤ x5_1) = true := decide_eq_true c4
   clear c4
   replace H := ob H
   obtain ⟨t299, A50, H⟩ := H
   (try dsimp only at H)
   have A5 := am A50
   clear A50
   by_cases c6 : t299 ≥ 0
   ·rw [if_pos c6] at H
    have c6b0 : decide (0 ≤ t299) = true := decide_eq_true c6
    clear c6
    obtain rfl := oi H
    have p298 : 0 ≤ (x5_1 : Int) := zD
    have q298 : x5_1 < (l0.length : Int) := zD
    obtain ⟨ad298, e298, hx298_0, hx298_1⟩ := at_T44 HR0.out x5_1 p298 q298
    cases e298
    replace hx298_0 := pc HB.out hx298_0
    replace hx298_1 := pc HB.out hx298_1
    replace p298 := eq_true p298
    replace q298 := eq_true q298
    go_wp2_with (first | ((with_reducible refine gate_callee (f := 25) rfl ?_); refine goesL_ (some 17) rfl rfl Tryz.func25 (by kernel_rfl) rfl #[.slice A1 l1.length c1, .agg #[.int .i64 ((rd_T44 l0 x5_1).f0), .int .i64 ((rd_T44 l0 x5_1).f1)]] rfl zL ?_; (with_reducible refine (spec_l02Index.calls k1 _ _ l1 ((rd_T44 l0 x5_1).f0) ((rd_T44 l0 x5_1).f1) t299 _ ?side1 ?side2 A5.out).mono ?_); (case side1 => repeat (first | exact (Kd.C_below HR1.out HB.out) | (with_reducible refine Kd.C_alloc ?_ _) | (with_reducible refine Kd.C_drewN ?_ _) | (with_reducible refine Kd.C_drew ?_))); (case side2 => exact HC1.out); rintro e w7 ⟨rfl, hb⟩; refine ⟨_, rfl, ?_⟩; have n0_ := am (Bb6 zB hb); clear HB; have HB := n0_; clear n0_; (try clear hb); (try clear hb2); (try clear hk); (try clear hi)))
    go_ret
    exact ⟨zE, zB⟩
   rw [if_neg c6] at H
   have c6b0 : decide (0 ≤ t299) = false := decide_eq_false c6
   clear c6
   have H' := am H
   clear H
   have p298 : 0 ≤ (x5_1 : Int) := zD
   have q298 : x5_1 < (l0.length : Int) := zD
   obtain ⟨ad298, e298, hx298_0, hx298_1⟩ := at_T44 HR0.out x5_1 p298 q298
   cases e298
   replace hx298_0 := pc HB.out hx298_0
   replace hx298_1 := pc HB.out hx298_1
   replace p298 := eq_true p298
   replace q298 := eq_true q298
   go_wp2_with (first | ((with_reducible refine gate_callee (f := 25) rfl ?_); refine goesL_ (some 17) rfl rfl Tryz.func25 (by kernel_rfl) rfl #[.slice A1 l1.length c1, .agg #[.int .i64 ((rd_T44 l0 x5_1).f0), .int .i64 ((rd_T44 l0 x5_1).f1)]] rfl zL ?_; (with_reducible refine (spec_l02Index.calls k1 _ _ l1 ((rd_T44 l0 x5_1).f0) ((rd_T44 l0 x5_1).f1) t299 _ ?side1 ?side2 A5.out).mono ?_); (case side1 => repeat (first | exact (Kd.C_below HR1.out HB.out) | (with_reducible refine Kd.C_alloc ?_ _) | (with_reducible refine Kd.C_drewN ?_ _) | (with_reducible refine Kd.C_drew ?_))); (case side2 => exact HC1.out); rintro e w8 ⟨rfl, hb⟩; refine ⟨_, rfl, ?_⟩; have n0_ := am (Bb6 zB hb); clear HB; have HB := n0_; clear n0_; (try clear hb); (try clear hb2); (try clear hk); (try clear hi)))
   go_roundg k1
   case measure => have := HK1.out; omega
   case rel => exact ⟨(wrap64 (x5_1 + 1)), zS, H', ⟨by have := HK1.out; omega⟩, ⟨zB⟩⟩

/-! ### spec_l26Free: function 17 -/
def spec_l26Free.l0 : Nat → List (S44) → List (S44) → Int → Option (Int × Int × Bool)
 | 0, _, _, _ => none
 | k + 1, x0, x1, x6 => if x6 < (x0.length : Int) then (if 0 ≤ x6 then ((spec_l02Index.f k x1 ((rd_T44 x0 x6).f0) ((rd_T44 x0 x6).f1)).bind fun t302 => (if t302 < 0 then (some ((rd_T44 x0 x6).f0, (rd_T44 x0 x6).f1, true)) else (spec_l26Free.l0 k x0 x1 (wrap64 (x6 + 1))))) else (none)) else (some (0, 0, false))
def spec_l26Free.f (k : Nat) (l0 : List (S44)) (l1 : List (S44)) : Option (Int × Int × Bool) := spec_l26Free.l0 k l0 l1 0
theorem spec_l26Free.mono_l : ∀ k, (∀ y0 y1 y2, LeO (spec_l26Free.l0 k y0 y1 y2) (spec_l26Free.l0 (k + 1) y0 y1 y2))
 | 0 => fun _ _ _ r h => by simp [spec_l26Free.l0] at h
 | k + 1 => by
  have ih0 := spec_l26Free.mono_l k
  ·intro y0 y1 y2
   unfold spec_l26Free.l0
   with_reducible repeat' first | exact ih0 _ _ _ | exact spec_l02Index.mono _ _ _ _ | exact LeO.refl _ | exact LeO.none _ | refine LeO.ite ?_ ?_ | refine LeO.bind ?_ (fun _ => ?_)
theorem spec_l26Free.mono : ∀ a0 a1 k, LeO (spec_l26Free.f k a0 a1) (spec_l26Free.f (k + 1) a0 a1) := by
 intro a0 a1 k
 have ih0 := spec_l26Free.mono_l k
 unfold spec_l26Free.f
 with_reducible repeat' first | exact ih0 _ _ _ | exact spec_l02Index.mono _ _ _ _ | exact LeO.refl _ | exact LeO.none _ | refine LeO.ite ?_ ?_ | refine LeO.bind ?_ (fun _ => ?_)
set_option maxHeartbeats 8000000 in
set_option maxRecDepth 100000 in
theorem spec_l26Free.calls (k : Nat) (A0 : Option Addr) (c0 : Nat) (l0 : List (S44)) (A1 : Option Addr) (c1 : Nat) (l1 : List (S44)) (r1 : Int) (r2 : Int) (r3 : Bool) (w : World) (hr0 : Kd.C k44 w A0 l0.length l0) (hc0 : l0.length ≤ c0) (hr1 : Kd.C k44 w A1 l1.length l1) (hc1 : l1.length ≤ c1) (h : spec_l26Free.f k l0 l1 = some (r1, r2, r3)) :
  Calls Tryz.prog 17 #[.slice A0 l0.length c0, .slice A1 l1.length c1] w fun e w' => e = .returned (.tuple #[.agg #[.int .i64 r1, .int .i64 r2], .bool r3]) ∧ Below w.heap.size w w' := by
 have hu44 := Tryz.underlying44
 have HR0 := am hr0
 have HC0 := am hc0
 clear hr0 hc0
 have HR1 := am hr1
 have HC1 := am hc1
 clear hr1 hc1
 have HB := am (Below.refl w.heap.size w)
 have H : (spec_l26Free.l0 k l0 l1 0) = some (r1, r2, r3) := h
 clear h
 have H' := am H
 clear H
 go_enter Tryz.func17, Tryz.ntmps17
 go_wp2_with (first | ((with_reducible refine gate_dst (N := 4) rfl ?_); refine box_event ?hg (N := 4) ?hd (cs := #[.int .i64 0, .int .i64 0]) (t := 44) ?hr ?_; (case hd => rfl); (case hg => rfl); (case hr => first | (go_simp; done) | (go_simp; rfl)); intro gb300 hg w3 hbox hb; have n0_ := am (Bb6 zB hb); have n1_ := am (hbox); have n2_ := am ((by rw [hg]; exact (Bb5 zB) : w.heap.size ≤ gb300)); have n3_ := n2_; clear HB; have HB := n0_; have BK300 := n1_; have GW300 := n2_; have GE300 := n3_; clear n0_ n1_ n2_ n3_; clear hb hbox hg))
 go_loopg [6] k (fun kq v6 w' => ∃ (x6_1 : Int) (x301000_1 : Int) (x301001_1 : Int), v6 = .int .i64 x6_1 ∧ Aside0 (spec_l26Free.l0 kq l0 l1 x6_1 = some (r1, r2, r3)) ∧ Aside0 (kq ≤ k) ∧ Aside0 (w'.heap[gb300]? = some (.cells #[.int .i64 x301000_1, .int .i64 x301001_1] 44 (0, 0))) ∧ Aside0 (Below w.heap.size w w'))
 case atStart => exact ⟨(0), (0), (0), zS, H', ⟨Nat.le_refl _⟩, ⟨zK BK300⟩, ⟨by repeat (first | (with_reducible first | exact HB.out | apply Bb1 | apply Bb2 | apply Bb3 | refine Bb4 ?_ GE300.out) | exact HB.out)⟩⟩
 case round =>
  clear H'
  try clear c1
  try clear p2
  obtain ⟨x6_1, x301000_1, x301001_1, rfl, HA, HK1, BK300, HB⟩ := hrel
  cases gk with
  | zero => exact absurd HA.out (by simp [spec_l26Free.l0])
  | succ k1 =>
   have H := HA.out
   clear HA
   simp only [spec_l26Free.l0] at H
   by_cases c4 : x6_1 < (l0.length : Int)
   rotate_left
   ·rw [if_neg c4] at H
    have c4b0 : decide (x6_1 < (l0.length : Int)) = false := decide_eq_false c4
    clear c4
    simp only [Option.some.injEq, Prod.mk.injEq] at H
    obtain ⟨rfl, rfl, rfl⟩ := H
    have hcz11_0 : wr.cell? ⟨gb300, 0, none⟩ = some (.int .i64 x301000_1) := (kc BK300.out 0).trans rfl
    have hcz11_1 : wr.cell? ⟨gb300, 1, none⟩ = some (.int .i64 x301001_1) := (kc BK300.out 1).trans rfl
    have hfz11_0 := kf BK300.out 0
    have hfz11_1 := kf BK300.out 1
    go_wp2
    refine bodyPost_ret (results_ct rfl _ _ gb300 44 #[.int .i64 0, .int .i64 0] (0, 0) _ rfl (by (with_reducible repeat (first | refine Bk2 ?_ _ | refine Bk3 ?_ | refine Bk1 ?_ _)); refine blk_put (cs := #[.int .i64 0, .int .i64 x301001_1]) ?_ 1 _ rfl; (with_reducible repeat (first | refine Bk2 ?_ _ | refine Bk3 ?_ | refine Bk1 ?_ _)); refine blk_put (cs := #[.int .i64 x301000_1, .int .i64 x301001_1]) ?_ 0 _ rfl; (with_reducible repeat (first | refine Bk2 ?_ _ | refine Bk3 ?_ | refine Bk1 ?_ _)); exact BK300.out) Tryz.underlying44 rfl (by kernel_rfl)) rfl ?_
    exact ⟨zE, by repeat (first | (with_reducible first | exact HB.out | apply Bb1 | apply Bb2 | apply Bb3 | refine Bb4 ?_ GE300.out) | exact HB.out)⟩
   rw [if_pos c4] at H
   have c4b0 : decide (x6_1 < (l0.length : Int)) = true := decide_eq_true c4
   clear c4
   by_cases c5 : 0 ≤ x6_1
   rotate_left
   ·rw [if_neg c5] at H
    exact absurd H (by simp)
   rw [if_pos c5] at H
   have c5b0 : decide (0 ≤ x6_1) = true := decide_eq_true c5
   clear c5
   replace H := ob H
   obtain ⟨t302, A60, H⟩ := H
   (try dsimp only at H)
   have A6 := am A60
   clear A60
   by_cases c7 : t302 < 0
   rotate_left
   ·rw [if_neg c7] at H
    have c7b0 : decide (t302 < 0) = false := decide_eq_false c7
    clear c7
    have H' := am H
    clear H
    have p301 : 0 ≤ (x6_1 : Int) := zD
    have q301 : x6_1 < (l0.length : Int) := zD
    obtain ⟨ad301, e301, hx301_0, hx301_1⟩ := at_T44 HR0.out x6_1 p301 q301
    cases e301
    replace hx301_0 := pc HB.out hx301_0
    replace hx301_1 := pc HB.out hx301_1
    replace p301 := eq_true p301
    replace q301 := eq_true q301
    go_wp2_with (first | ((with_reducible refine gate_callee (f := 25) rfl ?_); refine goesL_ (some 18) rfl rfl Tryz.func25 (by kernel_rfl) rfl #[.slice A1 l1.length c1, .agg #[.int .i64 ((rd_T44 l0 x6_1).f0), .int .i64 ((rd_T44 l0 x6_1).f1)]] rfl zL ?_; (with_reducible refine (spec_l02Index.calls k1 _ _ l1 ((rd_T44 l0 x6_1).f0) ((rd_T44 l0 x6_1).f1) t302 _ ?side1 ?side2 A6.out).mono ?_); (case side1 => repeat (first | exact (Kd.C_below HR1.out HB.out) | (with_reducible refine Kd.C_alloc ?_ _) | (with_reducible refine Kd.C_drewN ?_ _) | (with_reducible refine Kd.C_drew ?_))); (case side2 => exact HC1.out); rintro e w10 ⟨rfl, hb⟩; refine ⟨_, rfl, ?_⟩; have n0_ := am (Bk4 (g := gb300) (o := .cells #[.int .i64 x301000_1, .int .i64 x301001_1] 44 (0, 0)) (zK BK300) hb); have n1_ := am (Bb6 (by repeat (first | (with_reducible first | exact HB.out | apply Bb1 | apply Bb2 | apply Bb3 | refine Bb4 ?_ GE300.out) | exact HB.out)) hb); clear BK300; clear HB; have BK300 := n0_; have HB := n1_; clear n0_ n1_; (try clear hb); (try clear hb2); (try clear hk); (try clear hi)))
    go_roundg k1
    case measure => have := HK1.out; omega
    case rel => exact ⟨(wrap64 (x6_1 + 1)), (x301000_1), (x301001_1), zS, H', ⟨by have := HK1.out; omega⟩, ⟨zK BK300⟩, ⟨by repeat (first | (with_reducible first | exact HB.out | apply Bb1 | apply Bb2 | apply Bb3 | refine Bb4 ?_ GE300.out) | exact HB.out)⟩⟩
   rw [if_pos c7] at H
   have c7b0 : decide (t302 < 0) = true := decide_eq_true c7
   clear c7
   simp only [Option.some.injEq, Prod.mk.injEq] at H
   obtain ⟨rfl, rfl, rfl⟩ := H
   have p301 : 0 ≤ (x6_1 : Int) := zD
   have q301 : x6_1 < (l0.length : Int) := zD
   obtain ⟨ad301, e301, hx301_0, hx301_1⟩ := at_T44 HR0.out x6_1 p301 q301
   cases e301
   replace hx301_0 := pc HB.out hx301_0
   replace hx301_1 := pc HB.out hx301_1
   replace p301 := eq_true p301
   replace q301 := eq_true q301
   go_wp2_with (first | ((with_reducible refine gate_callee (f := 25) rfl ?_); refine goesL_ (some 18) rfl rfl Tryz.func25 (by kernel_rfl) rfl #[.slice A1 l1.length c1, .agg #[.int .i64 ((rd_T44 l0 x6_1).f0), .int .i64 ((rd_T44 l0 x6_1).f1)]] rfl zL ?_; (with_reducible refine (spec_l02Index.calls k1 _ _ l1 ((rd_T44 l0 x6_1).f0) ((rd_T44 l0 x6_1).f1) t302 _ ?side1 ?side2 A6.out).mono ?_); (case side1 => repeat (first | exact (Kd.C_below HR1.out HB.out) | (with_reducible refine Kd.C_alloc ?_ _) | (with_reducible refine Kd.C_drewN ?_ _) | (with_reducible refine Kd.C_drew ?_))); (case side2 => exact HC1.out); rintro e w8 ⟨rfl, hb⟩; refine ⟨_, rfl, ?_⟩; have n0_ := am (Bk4 (g := gb300) (o := .cells #[.int .i64 x301000_1, .int .i64 x301001_1] 44 (0, 0)) (zK BK300) hb); have n1_ := am (Bb6 (by repeat (first | (with_reducible first | exact HB.out | apply Bb1 | apply Bb2 | apply Bb3 | refine Bb4 ?_ GE300.out) | exact HB.out)) hb); clear BK300; clear HB; have BK300 := n0_; have HB := n1_; clear n0_ n1_; (try clear hb); (try clear hb2); (try clear hk); (try clear hi); have p303 : 0 ≤ (x6_1 : Int) := zD; have q303 : x6_1 < (l0.length : Int) := zD; obtain ⟨ad303, e303, hx303_0, hx303_1⟩ := at_T44 HR0.out x6_1 p303 q303; obtain rfl : ad301 = ad303 := (by injection e303); replace hx303_0 := pc HB.out hx303_0; replace hx303_1 := pc HB.out hx303_1; replace p303 := eq_true p303; replace q303 := eq_true q303; have hcz9_0 : w8.cell? ⟨gb300, 0, none⟩ = some (.int .i64 x301000_1) := (kc BK300.out 0).trans rfl; have hcz9_1 : w8.cell? ⟨gb300, 1, none⟩ = some (.int .i64 x301001_1) := (kc BK300.out 1).trans rfl; have hfz9_0 := kf BK300.out 0; have hfz9_1 := kf BK300.out 1))
   refine bodyPost_ret (results_ct rfl _ _ gb300 44 #[.int .i64 ((rd_T44 l0 x6_1).f0), .int .i64 ((rd_T44 l0 x6_1).f1)] (0, 0) _ rfl (by (with_reducible repeat (first | refine Bk2 ?_ _ | refine Bk3 ?_ | refine Bk1 ?_ _)); refine blk_put (cs := #[.int .i64 ((rd_T44 l0 x6_1).f0), .int .i64 x301001_1]) ?_ 1 _ rfl; (with_reducible repeat (first | refine Bk2 ?_ _ | refine Bk3 ?_ | refine Bk1 ?_ _)); refine blk_put (cs := #[.int .i64 x301000_1, .int .i64 x301001_1]) ?_ 0 _ rfl; (with_reducible repeat (first | refine Bk2 ?_ _ | refine Bk3 ?_ | refine Bk1 ?_ _)); exact BK300.out) Tryz.underlying44 rfl (by kernel_rfl)) rfl ?_
   exact ⟨zE, by repeat (first | (with_reducible first | exact HB.out | apply Bb1 | apply Bb2 | apply Bb3 | refine Bb4 ?_ GE300.out) | exact HB.out)⟩

end Go.Proofs.YtbbhohaenijaoaaGreat.Q
