/- Written by a program of this session (wip/tools/pp.py) out of the translation, with the kit's printer. -/
import Derived.Test.YtbbhohaenijaoaaGreatQ0
import Derived.Test.YtbbhohaenijaoaaGreatQ1
namespace Go.Proofs.YtbbhohaenijaoaaGreat.Q
open Go.RowKit Go.Proofs.YtbbhohaenijaoaaGreatW.PrintWords Go.Proofs.YtbbhohaenijaoaaGreatW.PrintLast Go.Proofs.YtbbhohaenijaoaaGreatW.PrintMore
attribute [local go_sem] max2_int min2_int max_two min_two max_three min_three max_four min_four
set_option linter.unusedVariables false
set_option linter.unusedSimpArgs false

attribute [local go_sem high] eqA44
/-! ### impl_cornersAround: function 37 -/
mutual
def impl_cornersAround.l0 : Nat → List (S44) → Int → Int → Int → Option ((List (S44)))
 | 0, _, _, _, _ => none
 | k + 1, x3, x4, x387000, x387001 => if x4 ≤ (wrap64 (x387001 + 1)) then (impl_cornersAround.l1 k x3 x4 (wrap64 (x387000 - 1)) x387000 x387001) else (some x3)
def impl_cornersAround.l1 : Nat → List (S44) → Int → Int → Int → Int → Option ((List (S44)))
 | 0, _, _, _, _, _ => none
 | k + 1, x3, x4, x5, x387000, x387001 => if x5 ≤ (wrap64 (x387000 + 1)) then (if (!(x5 == x387000) || (!(x4 == x387001))) = true then (if x3.length < 8796093022208 then (impl_cornersAround.l1 k (x3 ++ [(⟨x5, x4⟩ : S44)]) x4 (wrap64 (x5 + 1)) x387000 x387001) else (none)) else (impl_cornersAround.l1 k x3 x4 (wrap64 (x5 + 1)) x387000 x387001)) else (impl_cornersAround.l0 k x3 (wrap64 (x4 + 1)) x387000 x387001)
end
def impl_cornersAround.f (k : Nat) (a0_0 : Int) (a0_1 : Int) : Option ((List (S44))) := impl_cornersAround.l0 k (([] : List (S44))) (wrap64 (a0_1 - 1)) a0_0 a0_1
theorem impl_cornersAround.mono_l : ∀ k, (∀ y0 y1 y2 y3, LeO (impl_cornersAround.l0 k y0 y1 y2 y3) (impl_cornersAround.l0 (k + 1) y0 y1 y2 y3)) ∧ (∀ y0 y1 y2 y3 y4, LeO (impl_cornersAround.l1 k y0 y1 y2 y3 y4) (impl_cornersAround.l1 (k + 1) y0 y1 y2 y3 y4))
 | 0 => ⟨fun _ _ _ _ r h => by simp [impl_cornersAround.l0] at h, fun _ _ _ _ _ r h => by simp [impl_cornersAround.l1] at h⟩
 | k + 1 => by
  obtain ⟨ih0, ih1⟩ := impl_cornersAround.mono_l k
  refine ⟨?_, ?_⟩
  ·intro y0 y1 y2 y3
   unfold impl_cornersAround.l0
   with_reducible repeat' first | exact ih0 _ _ _ _ | exact ih1 _ _ _ _ _ | exact LeO.refl _ | exact LeO.none _ | refine LeO.ite ?_ ?_ | refine LeO.bind ?_ (fun _ => ?_)
  ·intro y0 y1 y2 y3 y4
   unfold impl_cornersAround.l1
   with_reducible repeat' first | exact ih0 _ _ _ _ | exact ih1 _ _ _ _ _ | exact LeO.refl _ | exact LeO.none _ | refine LeO.ite ?_ ?_ | refine LeO.bind ?_ (fun _ => ?_)
theorem impl_cornersAround.mono : ∀ a0 a1 k, LeO (impl_cornersAround.f k a0 a1) (impl_cornersAround.f (k + 1) a0 a1) := by
 intro a0 a1 k
 obtain ⟨ih0, ih1⟩ := impl_cornersAround.mono_l k
 unfold impl_cornersAround.f
 with_reducible repeat' first | exact ih0 _ _ _ _ | exact ih1 _ _ _ _ _ | exact LeO.refl _ | exact LeO.none _ | refine LeO.ite ?_ ?_ | refine LeO.bind ?_ (fun _ => ?_)
set_option maxHeartbeats 8000000 in
set_option maxRecDepth 100000 in
theorem impl_cornersAround.calls (k : Nat) (a0_0 : Int) (a0_1 : Int) (r : List (S44)) (w : World) (h : impl_cornersAround.f k a0_0 a0_1 = some r) :
  Calls Tryz.prog 37 #[.agg #[.int .i64 a0_0, .int .i64 a0_1]] w fun e w' => ∃ v0_ : Value, e = .returned (v0_) ∧ Kd.R k44 44 w' w.heap.size (fun _ => True) v0_ r ∧ Below w.heap.size w w' := by
 have hu44 := Tryz.underlying44
 have HB := am (Below.refl w.heap.size w)
 have H : (impl_cornersAround.l0 k (([] : List (S44))) (wrap64 (a0_1 - 1)) a0_0 a0_1) = some r := h
 clear h
 obtain ⟨y387, hy387⟩ : ∃ y_ : List (S44), y_ = (([] : List (S44))) := ⟨_, rfl⟩
 replace H : (impl_cornersAround.l0 k y387 (wrap64 (a0_1 - 1)) a0_0 a0_1) = some r := by first | (rw [hy387]; with_reducible exact H) | (have H2_ := (Option.bind_some _ _).symm.trans H; rw [hy387]; with_reducible exact H2_) | (have H2_ := (Option.bind_some _ _).symm.trans H; with_reducible exact H2_) | with_reducible exact H | (rw [hy387]; exact H) | exact H
 have Ny387 := am hy387
 clear hy387
 have H' := am H
 clear H
 go_enter Tryz.func37, Tryz.ntmps37
 go_wp2_with (first | ((with_reducible refine gate_dst (N := 1) rfl ?_); refine box_event ?hg (N := 1) ?hd (cs := #[.int .i64 a0_0, .int .i64 a0_1]) (t := 44) ?hr ?_; (case hd => rfl); (case hg => rfl); (case hr => first | (go_simp; done) | (go_simp; rfl)); intro gb386 hg w2 hbox hb; have n0_ := am (Bb6 zB hb); have n1_ := am (hbox); have n2_ := am ((by rw [hg]; exact (Bb5 zB) : w.heap.size ≤ gb386)); have n3_ := n2_; clear HB; have HB := n0_; have BK386 := n1_; have GW386 := n2_; have GE386 := n3_; clear n0_ n1_ n2_ n3_; clear hb hbox hg) | ((with_reducible refine gate_dst (N := 7) rfl ?_); refine Kd.R_lit k44 _ 44 ?hg (N := 7) ?hd (xs := ([] : List (S44))) (inner := []) (ok := fun _ => True) (okp := fun _ => True) ?hr ?hp (fun _ hk => hk) trivial (Below.refl _ _) (Nat.le_refl _) (by simp) ?_; (case hd => rfl); (case hg => rfl); (case hr => first | (go_simp; done) | (go_simp; rfl)); (case hp => exact (Reps.none _ _)); intro v388 w3 ho4 hb hg_ hnew_; clear hg_ hnew_; (first | rw [← Ny387.out] at ho4 | (simp only [Int.reduceToNat] at ho4; rw [← Ny387.out] at ho4)); have n0_ := am (Kd.R_lower (Kd.R_newB ho4 (g := gb386) (o := .cells #[.int .i64 a0_0, .int .i64 a0_1] 44 (0, 0)) (zK BK386)) (Bb5 (by repeat (first | (with_reducible first | exact HB.out | apply Bb1 | apply Bb2 | apply Bb3 | refine Bb4 ?_ GE386.out) | exact HB.out)))); have n1_ := am (Bk4 (g := gb386) (o := .cells #[.int .i64 a0_0, .int .i64 a0_1] 44 (0, 0)) (zK BK386) hb); have n2_ := am (Bb6 (by repeat (first | (with_reducible first | exact HB.out | apply Bb1 | apply Bb2 | apply Bb3 | refine Bb4 ?_ GE386.out) | exact HB.out)) hb); clear BK386; clear HB; have HO389 := n0_; have BK386 := n1_; have HB := n2_; clear n0_ n1_ n2_; clear hb ho4; have hcz5_0 : w3.cell? ⟨gb386, 0, none⟩ = some (.int .i64 a0_0) := (kc BK386.out 0).trans rfl; have hcz5_1 : w3.cell? ⟨gb386, 1, none⟩ = some (.int .i64 a0_1) := (kc BK386.out 1).trans rfl; have hfz5_0 := kf BK386.out 0; have hfz5_1 := kf BK386.out 1))
 go_loopg [3, 4] k (fun kq v3 v4 w' => ∃ (x3_1 : List (S44)) (x4_1 : Int), v4 = .int .i64 x4_1 ∧ Aside0 (impl_cornersAround.l0 kq x3_1 x4_1 a0_0 a0_1 = some r) ∧ Aside0 (kq ≤ k) ∧ Aside0 (Kd.R k44 44 w' w.heap.size (fun k_ => k_ ≠ gb386) v3 x3_1) ∧ Aside0 (w'.heap[gb386]? = some (.cells #[.int .i64 a0_0, .int .i64 a0_1] 44 (0, 0))) ∧ Aside0 (Below w.heap.size w w'))
 case atStart => exact ⟨(y387), (wrap64 (a0_1 - 1)), zS, H', ⟨Nat.le_refl _⟩, ⟨by (with_reducible repeat (first | apply Kd.R_alloc | apply Kd.R_drewN | apply Kd.R_drew)); exact Kd.R_mono HO389.out (fun _ hk => hk.2)⟩, ⟨zK BK386⟩, ⟨by repeat (first | (with_reducible first | exact HB.out | apply Bb1 | apply Bb2 | apply Bb3 | refine Bb4 ?_ GE386.out) | exact HB.out)⟩⟩
 case round =>
  clear H'
  try clear p2
  try clear c3
  try clear hcz5_0
  try clear hcz5_1
  try clear hfz5_0
  try clear hfz5_1
  obtain ⟨x3_1, x4_1, rfl, HA, HK1, HO_3, BK386, HB⟩ := hrel
  cases gk with
  | zero => exact absurd HA.out (by simp [impl_cornersAround.l0])
  | succ k1 =>
   have H := HA.out
   clear HA
   simp only [impl_cornersAround.l0] at H
   by_cases c6 : x4_1 ≤ (wrap64 (a0_1 + 1))
   rotate_left
   ·rw [if_neg c6] at H
    have c6b0 : decide (x4_1 ≤ (wrap64 (a0_1 + 1))) = false := decide_eq_false c6
    clear c6
    obtain rfl := oi H
    have hcz23_0 : wr.cell? ⟨gb386, 0, none⟩ = some (.int .i64 a0_0) := (kc BK386.out 0).trans rfl
    have hcz23_1 : wr.cell? ⟨gb386, 1, none⟩ = some (.int .i64 a0_1) := (kc BK386.out 1).trans rfl
    have hfz23_0 := kf BK386.out 0
    have hfz23_1 := kf BK386.out 1
    go_wp2
    go_ret
    exact ⟨_, zE, by (with_reducible repeat (first | apply Kd.R_alloc | apply Kd.R_drewN | apply Kd.R_drew)); exact Kd.R_mono HO_3.out (fun _ hk => trivial), by repeat (first | (with_reducible first | exact HB.out | apply Bb1 | apply Bb2 | apply Bb3 | refine Bb4 ?_ GE386.out) | exact HB.out)⟩
   rw [if_pos c6] at H
   have c6b0 : decide (x4_1 ≤ (wrap64 (a0_1 + 1))) = true := decide_eq_true c6
   clear c6
   have H' := am H
   clear H
   have hcz7_0 : wr.cell? ⟨gb386, 0, none⟩ = some (.int .i64 a0_0) := (kc BK386.out 0).trans rfl
   have hcz7_1 : wr.cell? ⟨gb386, 1, none⟩ = some (.int .i64 a0_1) := (kc BK386.out 1).trans rfl
   have hfz7_0 := kf BK386.out 0
   have hfz7_1 := kf BK386.out 1
   go_wp2
   go_loopg [3, 5] k1 (fun kq v3 v5 w' => ∃ (x3_2 : List (S44)) (x5_2 : Int), v5 = .int .i64 x5_2 ∧ Aside0 (impl_cornersAround.l1 kq x3_2 x4_1 x5_2 a0_0 a0_1 = some r) ∧ Aside0 (kq ≤ k1) ∧ Aside0 (Kd.R k44 44 w' w.heap.size (fun k_ => k_ ≠ gb386) v3 x3_2) ∧ Aside0 (w'.heap[gb386]? = some (.cells #[.int .i64 a0_0, .int .i64 a0_1] 44 (0, 0))) ∧ Aside0 (Below w.heap.size w w'))
   case atStart => exact ⟨(x3_1), (wrap64 (a0_0 - 1)), zS, H', ⟨Nat.le_refl _⟩, ⟨zR HO_3⟩, ⟨zK BK386⟩, ⟨by repeat (first | (with_reducible first | exact HB.out | apply Bb1 | apply Bb2 | apply Bb3 | refine Bb4 ?_ GE386.out) | exact HB.out)⟩⟩
   case round =>
    clear H'
    try clear p2
    try clear c3
    try clear c6
    try clear c6b0
    try clear p6
    try clear hcz5_0
    try clear hcz5_1
    try clear hcz7_0
    try clear hcz7_1
    try clear hfz5_0
    try clear hfz5_1
    try clear hfz7_0
    try clear hfz7_1
    try clear p2
    obtain ⟨x3_2, x5_2, rfl, HA, HK2, HO_3, BK386, HB⟩ := hrel
    cases gk with
    | zero => exact absurd HA.out (by simp [impl_cornersAround.l1])
    | succ k2 =>
     have H := HA.out
     clear HA
     simp only [impl_cornersAround.l1] at H
     by_cases c8 : x5_2 ≤ (wrap64 (a0_0 + 1))
     rotate_left
     ·rw [if_neg c8] at H
      have c8b0 : decide (x5_2 ≤ (wrap64 (a0_0 + 1))) = false := decide_eq_false c8
      clear c8
      have H' := am H
      clear H
      have hcz22_0 : wr.cell? ⟨gb386, 0, none⟩ = some (.int .i64 a0_0) := (kc BK386.out 0).trans rfl
      have hcz22_1 : wr.cell? ⟨gb386, 1, none⟩ = some (.int .i64 a0_1) := (kc BK386.out 1).trans rfl
      have hfz22_0 := kf BK386.out 0
      have hfz22_1 := kf BK386.out 1
      go_wp2
      go_roundg k2
      case measure => have := HK1.out; have := HK2.out; omega
      case rel => exact ⟨(x3_2), (wrap64 (x4_1 + 1)), zS, H', ⟨by have := HK1.out; have := HK2.out; omega⟩, ⟨zR HO_3⟩, ⟨zK BK386⟩, ⟨by repeat (first | (with_reducible first | exact HB.out | apply Bb1 | apply Bb2 | apply Bb3 | refine Bb4 ?_ GE386.out) | exact HB.out)⟩⟩
     rw [if_pos c8] at H
     have c8b0 : decide (x5_2 ≤ (wrap64 (a0_0 + 1))) = true := decide_eq_true c8
     clear c8
     by_cases c9 : (!(x5_2 == a0_0) || (!(x4_1 == a0_1))) = true
     rotate_left
     ·rw [if_neg c9] at H
      have c9b0 : (!(x5_2 == a0_0) || (!(x4_1 == a0_1))) = false := by simpa using c9
      clear c9
      have H' := am H
      clear H
      have hcz17_0 : wr.cell? ⟨gb386, 0, none⟩ = some (.int .i64 a0_0) := (kc BK386.out 0).trans rfl
      have hcz17_1 : wr.cell? ⟨gb386, 1, none⟩ = some (.int .i64 a0_1) := (kc BK386.out 1).trans rfl
      have hfz17_0 := kf BK386.out 0
      have hfz17_1 := kf BK386.out 1
      go_wp2_with (first | ((with_reducible refine gate_dst (N := 6) rfl ?_); refine box_event ?hg (N := 6) ?hd (cs := #[.int .i64 0, .int .i64 0]) (t := 44) ?hr ?_; (case hd => rfl); (case hg => rfl); (case hr => first | (go_simp; done) | (go_simp; rfl)); intro gb390 hg w18 hbox hb; have n0_ := am (Kd.R_below (Kd.R_elderB (zR HO_3) gb390 (Nat.le_of_eq hg.symm)) hb); have n1_ := am (Bk4 (g := gb386) (o := .cells #[.int .i64 a0_0, .int .i64 a0_1] 44 (0, 0)) (zK BK386) hb); have n2_ := am (Bb6 (by repeat (first | (with_reducible first | exact HB.out | apply Bb1 | apply Bb2 | apply Bb3 | refine Bb4 ?_ GE386.out) | exact HB.out)) hb); have n3_ := am (hbox); have n4_ := am ((by rw [hg]; exact (Bb5 (by repeat (first | (with_reducible first | exact HB.out | apply Bb1 | apply Bb2 | apply Bb3 | refine Bb4 ?_ GE386.out) | exact HB.out))) : w.heap.size ≤ gb390)); have n5_ := n4_; have n6_ := am ((by rw [hg]; exact nl (Bk5 (g := gb386) (o := .cells #[.int .i64 a0_0, .int .i64 a0_1] 44 (0, 0)) (zK BK386)) : gb386 ≠ gb390)); have n7_ := am ((by rw [hg]; exact ng (Bk5 (g := gb386) (o := .cells #[.int .i64 a0_0, .int .i64 a0_1] 44 (0, 0)) (zK BK386)) : gb390 ≠ gb386)); clear HO_3; clear BK386; clear HB; have HO_3 := n0_; have BK386 := n1_; have HB := n2_; have BK390 := n3_; have GW390 := n4_; have GE390 := n5_; have NB386_390 := n6_; have NB390_386 := n7_; clear n0_ n1_ n2_ n3_ n4_ n5_ n6_ n7_; clear hb hbox hg; have hnb19 := NB390_386.out; have hnc19 := NB386_390.out; have hcz20_0 : w18.cell? ⟨gb390, 0, none⟩ = some (.int .i64 0) := (kc BK390.out 0).trans rfl; have hcz20_1 : w18.cell? ⟨gb390, 1, none⟩ = some (.int .i64 0) := (kc BK390.out 1).trans rfl; have hfz20_0 := kf BK390.out 0; have hfz20_1 := kf BK390.out 1; have hcz21_0 : w18.cell? ⟨gb386, 0, none⟩ = some (.int .i64 a0_0) := (kc BK386.out 0).trans rfl; have hcz21_1 : w18.cell? ⟨gb386, 1, none⟩ = some (.int .i64 a0_1) := (kc BK386.out 1).trans rfl; have hfz21_0 := kf BK386.out 0; have hfz21_1 := kf BK386.out 1))
      go_roundg k2
      case measure => have := HK1.out; have := HK2.out; omega
      case rel => exact ⟨(x3_2), (wrap64 (x5_2 + 1)), zS, H', ⟨by have := HK1.out; have := HK2.out; omega⟩, ⟨by (with_reducible repeat (first | apply Kd.R_alloc | apply Kd.R_drewN | apply Kd.R_drew)); exact Kd.R_mono (Kd.R_far (p := ⟨gb390, 1, none⟩) (Kd.R_far (p := ⟨gb390, 0, none⟩) (Kd.R_mono HO_3.out (fun k_ hk => (⟨hk, hk.2⟩ : _ ∧ k_ ≠ gb390))) (fun _ hk => hk.2) (.int .i64 x5_2)) (fun _ hk => hk.2) (.int .i64 x4_1)) (fun _ hk => hk.1.1)⟩, ⟨by (with_reducible repeat (first | refine Bk2 ?_ _ | refine Bk3 ?_ | refine Bk1 ?_ _)); refine blk_far ?_ NB386_390.out _; (with_reducible repeat (first | refine Bk2 ?_ _ | refine Bk3 ?_ | refine Bk1 ?_ _)); refine blk_far ?_ NB386_390.out _; (with_reducible repeat (first | refine Bk2 ?_ _ | refine Bk3 ?_ | refine Bk1 ?_ _)); exact BK386.out⟩, ⟨by repeat (first | (with_reducible first | exact HB.out | apply Bb1 | apply Bb2 | apply Bb3 | refine Bb4 ?_ GE386.out | refine Bb4 ?_ GE390.out) | exact HB.out)⟩⟩
     rw [if_pos c9] at H
     have c9b0 : (!(x5_2 == a0_0) || (!(x4_1 == a0_1))) = true := c9
     clear c9
     by_cases c10 : x3_2.length < 8796093022208
     rotate_left
     ·rw [if_neg c10] at H
      exact absurd H (by simp)
     rw [if_pos c10] at H
     have LMc10 := am c10
     clear c10
     obtain ⟨y391, hy391⟩ : ∃ y_ : List (S44), y_ = (x3_2 ++ [(⟨x5_2, x4_1⟩ : S44)]) := ⟨_, rfl⟩
     replace H : (impl_cornersAround.l1 k2 y391 x4_1 (wrap64 (x5_2 + 1)) a0_0 a0_1) = some r := by first | (rw [hy391]; with_reducible exact H) | (have H2_ := (Option.bind_some _ _).symm.trans H; rw [hy391]; with_reducible exact H2_) | (have H2_ := (Option.bind_some _ _).symm.trans H; with_reducible exact H2_) | with_reducible exact H | (rw [hy391]; exact H) | exact H
     have Ny391 := am hy391
     clear hy391
     have H' := am H
     clear H
     have hcz11_0 : wr.cell? ⟨gb386, 0, none⟩ = some (.int .i64 a0_0) := (kc BK386.out 0).trans rfl
     have hcz11_1 : wr.cell? ⟨gb386, 1, none⟩ = some (.int .i64 a0_1) := (kc BK386.out 1).trans rfl
     have hfz11_0 := kf BK386.out 0
     have hfz11_1 := kf BK386.out 1
     go_wp2_with (first | ((with_reducible refine gate_dst (N := 6) rfl ?_); refine box_event ?hg (N := 6) ?hd (cs := #[.int .i64 0, .int .i64 0]) (t := 44) ?hr ?_; (case hd => rfl); (case hg => rfl); (case hr => first | (go_simp; done) | (go_simp; rfl)); intro gb390 hg w12 hbox hb; have n0_ := am (Kd.R_below (Kd.R_elderB (zR HO_3) gb390 (Nat.le_of_eq hg.symm)) hb); have n1_ := am (Bk4 (g := gb386) (o := .cells #[.int .i64 a0_0, .int .i64 a0_1] 44 (0, 0)) (zK BK386) hb); have n2_ := am (Bb6 (by repeat (first | (with_reducible first | exact HB.out | apply Bb1 | apply Bb2 | apply Bb3 | refine Bb4 ?_ GE386.out) | exact HB.out)) hb); have n3_ := am (hbox); have n4_ := am ((by rw [hg]; exact (Bb5 (by repeat (first | (with_reducible first | exact HB.out | apply Bb1 | apply Bb2 | apply Bb3 | refine Bb4 ?_ GE386.out) | exact HB.out))) : w.heap.size ≤ gb390)); have n5_ := n4_; have n6_ := am ((by rw [hg]; exact nl (Bk5 (g := gb386) (o := .cells #[.int .i64 a0_0, .int .i64 a0_1] 44 (0, 0)) (zK BK386)) : gb386 ≠ gb390)); have n7_ := am ((by rw [hg]; exact ng (Bk5 (g := gb386) (o := .cells #[.int .i64 a0_0, .int .i64 a0_1] 44 (0, 0)) (zK BK386)) : gb390 ≠ gb386)); clear HO_3; clear BK386; clear HB; have HO_3 := n0_; have BK386 := n1_; have HB := n2_; have BK390 := n3_; have GW390 := n4_; have GE390 := n5_; have NB386_390 := n6_; have NB390_386 := n7_; clear n0_ n1_ n2_ n3_ n4_ n5_ n6_ n7_; clear hb hbox hg; have hnb13 := NB390_386.out; have hnc13 := NB386_390.out; have hcz14_0 : w12.cell? ⟨gb390, 0, none⟩ = some (.int .i64 0) := (kc BK390.out 0).trans rfl; have hcz14_1 : w12.cell? ⟨gb390, 1, none⟩ = some (.int .i64 0) := (kc BK390.out 1).trans rfl; have hfz14_0 := kf BK390.out 0; have hfz14_1 := kf BK390.out 1; have hcz15_0 : w12.cell? ⟨gb386, 0, none⟩ = some (.int .i64 a0_0) := (kc BK386.out 0).trans rfl; have hcz15_1 : w12.cell? ⟨gb386, 1, none⟩ = some (.int .i64 a0_1) := (kc BK386.out 1).trans rfl; have hfz15_0 := kf BK386.out 0; have hfz15_1 := kf BK386.out 1) | ((with_reducible refine gate_builtin (b := .append) (xs := #[.tmp 34, .tmp 36]) rfl ?_); at_builtin; refine Kd.R_append k44 (w0 := w) w.heap.size rfl (.tmp 34) (.tmp 36) 29 44 (.agg #[(.int .i64 0), (.int .i64 0)]) 16 rfl Tryz.underlying29 info44 rfl (by decide) (by omega) u3 x3_2 (⟨x5_2, x4_1⟩ : S44) [.int .i64 x5_2, .int .i64 x4_1] (fun k_ => k_ ≠ gb386 ∧ k_ ≠ gb390) (fun _ => False) rfl (by first | (go_simp; done) | (go_simp; rfl)) ?aP (fun _ hk => hk.elim) ?aF ?aO ?aB ?aS ?aL ?_; (case aP => exact k44_mkM _ _ _ (⟨x5_2, x4_1⟩ : S44)); (case aB => exact (by repeat (first | (with_reducible first | exact HB.out | apply Bb1 | apply Bb2 | apply Bb3 | refine Bb4 ?_ GE386.out | refine Bb4 ?_ GE390.out) | exact HB.out))); (case aF => exact (fun k_ hk => ⟨Kd.freshB (g := gb386) (o := .cells #[.int .i64 a0_0, .int .i64 a0_1] 44 (0, 0)) (by (with_reducible repeat (first | refine Bk2 ?_ _ | refine Bk3 ?_ | refine Bk1 ?_ _)); refine blk_far ?_ NB386_390.out _; (with_reducible repeat (first | refine Bk2 ?_ _ | refine Bk3 ?_ | refine Bk1 ?_ _)); refine blk_far ?_ NB386_390.out _; (with_reducible repeat (first | refine Bk2 ?_ _ | refine Bk3 ?_ | refine Bk1 ?_ _)); exact BK386.out) k_ hk, Kd.freshB (g := gb390) (o := .cells #[.int .i64 x5_2, .int .i64 x4_1] 44 (0, 0)) (by (with_reducible repeat (first | refine Bk2 ?_ _ | refine Bk3 ?_ | refine Bk1 ?_ _)); refine blk_put (cs := #[.int .i64 x5_2, .int .i64 0]) ?_ 1 _ rfl; (with_reducible repeat (first | refine Bk2 ?_ _ | refine Bk3 ?_ | refine Bk1 ?_ _)); refine blk_put (cs := #[.int .i64 0, .int .i64 0]) ?_ 0 _ rfl; (with_reducible repeat (first | refine Bk2 ?_ _ | refine Bk3 ?_ | refine Bk1 ?_ _)); exact BK390.out) k_ hk⟩)); (case aO => exact (by (with_reducible repeat (first | apply Kd.R_alloc | apply Kd.R_drewN | apply Kd.R_drew)); exact Kd.R_mono (Kd.R_far (p := ⟨gb390, 1, none⟩) (Kd.R_far (p := ⟨gb390, 0, none⟩) (Kd.R_mono HO_3.out (fun k_ hk => (⟨hk, hk.2⟩ : _ ∧ k_ ≠ gb390))) (fun _ hk => hk.2) (.int .i64 x5_2)) (fun _ hk => hk.2) (.int .i64 x4_1)) (fun _ hk => ⟨hk.1.1, hk.1.2⟩))); (case aS => exact (Bb5 (by repeat (first | (with_reducible first | exact HB.out | apply Bb1 | apply Bb2 | apply Bb3 | refine Bb4 ?_ GE386.out | refine Bb4 ?_ GE390.out) | exact HB.out)))); (case aL => first | (have := LMc10.out; omega) | (have h_ := Nat.le_of_lt LMc10.out; exact h_)); intro v392 w16 ho hb hg hat; rw [← Ny391.out] at ho; have n0_ := am (blk_grown (g := gb386) (o := .cells #[.int .i64 a0_0, .int .i64 a0_1] 44 (0, 0)) (by (with_reducible repeat (first | refine Bk2 ?_ _ | refine Bk3 ?_ | refine Bk1 ?_ _)); refine blk_far ?_ NB386_390.out _; (with_reducible repeat (first | refine Bk2 ?_ _ | refine Bk3 ?_ | refine Bk1 ?_ _)); refine blk_far ?_ NB386_390.out _; (with_reducible repeat (first | refine Bk2 ?_ _ | refine Bk3 ?_ | refine Bk1 ?_ _)); exact BK386.out) hg (Kd.R_away HO_3.out (fun _ hk => hk.1))); have n1_ := am (blk_grown (g := gb390) (o := .cells #[.int .i64 x5_2, .int .i64 x4_1] 44 (0, 0)) (by (with_reducible repeat (first | refine Bk2 ?_ _ | refine Bk3 ?_ | refine Bk1 ?_ _)); refine blk_put (cs := #[.int .i64 x5_2, .int .i64 0]) ?_ 1 _ rfl; (with_reducible repeat (first | refine Bk2 ?_ _ | refine Bk3 ?_ | refine Bk1 ?_ _)); refine blk_put (cs := #[.int .i64 0, .int .i64 0]) ?_ 0 _ rfl; (with_reducible repeat (first | refine Bk2 ?_ _ | refine Bk3 ?_ | refine Bk1 ?_ _)); exact BK390.out) hg (Kd.R_away HO_3.out (fun _ hk => hk.2))); have n2_ := am (hb); have n3_ := am (ho); clear BK386; clear BK390; clear HB; clear HO_3; have BK386 := n0_; have BK390 := n1_; have HB := n2_; have HO393 := n3_; clear n0_ n1_ n2_ n3_; clear ho hb hg hat))
     go_roundg k2
     case measure => have := HK1.out; have := HK2.out; omega
     case rel => exact ⟨(y391), (wrap64 (x5_2 + 1)), zS, H', ⟨by have := HK1.out; have := HK2.out; omega⟩, ⟨by (with_reducible repeat (first | apply Kd.R_alloc | apply Kd.R_drewN | apply Kd.R_drew)); exact Kd.R_mono HO393.out (fun _ hk => hk.1)⟩, ⟨zK BK386⟩, ⟨by repeat (first | (with_reducible first | exact HB.out | apply Bb1 | apply Bb2 | apply Bb3 | refine Bb4 ?_ GE386.out | refine Bb4 ?_ GE390.out) | exact HB.out)⟩⟩

/-! ### impl_Cell_66: function 66 -/
def impl_Cell_66.l0 : Nat → List (S44) → Int → Int → Int → Int → Option (Int)
 | 0, _, _, _, _, _ => none
 | k + 1, x0, x7, x8, x395000, x395001 => if x8 < x7 then (if 0 ≤ x8 then (if x8 < (x0.length : Int) then (if (x395000 == ((rd_T44 x0 x8).f0) && (x395001 == ((rd_T44 x0 x8).f1))) = true then (some x8) else (impl_Cell_66.l0 k x0 x7 (wrap64 (x8 + 1)) x395000 x395001)) else (none)) else (none)) else (some (-1))
def impl_Cell_66.f (k : Nat) (l0 : List (S44)) (a1_0 : Int) (a1_1 : Int) : Option (Int) := impl_Cell_66.l0 k l0 (l0.length : Int) 0 a1_0 a1_1
theorem impl_Cell_66.mono_l : ∀ k, (∀ y0 y1 y2 y3 y4, LeO (impl_Cell_66.l0 k y0 y1 y2 y3 y4) (impl_Cell_66.l0 (k + 1) y0 y1 y2 y3 y4))
 | 0 => fun _ _ _ _ _ r h => by simp [impl_Cell_66.l0] at h
 | k + 1 => by
  have ih0 := impl_Cell_66.mono_l k
  ·intro y0 y1 y2 y3 y4
   unfold impl_Cell_66.l0
   with_reducible repeat' first | exact ih0 _ _ _ _ _ | exact LeO.refl _ | exact LeO.none _ | refine LeO.ite ?_ ?_ | refine LeO.bind ?_ (fun _ => ?_)
theorem impl_Cell_66.mono : ∀ a0 a1 a2 k, LeO (impl_Cell_66.f k a0 a1 a2) (impl_Cell_66.f (k + 1) a0 a1 a2) := by
 intro a0 a1 a2 k
 have ih0 := impl_Cell_66.mono_l k
 unfold impl_Cell_66.f
 with_reducible repeat' first | exact ih0 _ _ _ _ _ | exact LeO.refl _ | exact LeO.none _ | refine LeO.ite ?_ ?_ | refine LeO.bind ?_ (fun _ => ?_)
set_option maxHeartbeats 8000000 in
set_option maxRecDepth 100000 in
theorem impl_Cell_66.calls (k : Nat) (A0 : Option Addr) (c0 : Nat) (l0 : List (S44)) (a1_0 : Int) (a1_1 : Int) (r : Int) (w : World) (hr0 : Kd.C k44 w A0 l0.length l0) (hc0 : l0.length ≤ c0) (h : impl_Cell_66.f k l0 a1_0 a1_1 = some r) :
  Calls Tryz.prog 66 #[.slice A0 l0.length c0, .agg #[.int .i64 a1_0, .int .i64 a1_1]] w fun e w' => e = .returned (.int .i64 r) ∧ Below w.heap.size w w' := by
 have hu44 := Tryz.underlying44
 have HR0 := am hr0
 have HC0 := am hc0
 clear hr0 hc0
 have HB := am (Below.refl w.heap.size w)
 have H : (impl_Cell_66.l0 k l0 (l0.length : Int) 0 a1_0 a1_1) = some r := h
 clear h
 have H' := am H
 clear H
 go_enter Tryz.func66, Tryz.ntmps66
 go_wp2_with (first | ((with_reducible refine gate_dst (N := 3) rfl ?_); refine box_event ?hg (N := 3) ?hd (cs := #[.int .i64 a1_0, .int .i64 a1_1]) (t := 44) ?hr ?_; (case hd => rfl); (case hg => rfl); (case hr => first | (go_simp; done) | (go_simp; rfl)); intro gb394 hg w3 hbox hb; have n0_ := am (Bb6 zB hb); have n1_ := am (hbox); have n2_ := am ((by rw [hg]; exact (Bb5 zB) : w.heap.size ≤ gb394)); have n3_ := n2_; clear HB; have HB := n0_; have BK394 := n1_; have GW394 := n2_; have GE394 := n3_; clear n0_ n1_ n2_ n3_; clear hb hbox hg))
 repeat (go_quiet (first | ((with_reducible refine gate_dst (N := 3) rfl ?_); refine box_event ?hg (N := 3) ?hd (cs := #[.int .i64 a1_0, .int .i64 a1_1]) (t := 44) ?hr ?_; (case hd => rfl); (case hg => rfl); (case hr => first | (go_simp; done) | (go_simp; rfl)); intro gb394 hg w3 hbox hb; have n0_ := am (Bb6 zB hb); have n1_ := am (hbox); have n2_ := am ((by rw [hg]; exact (Bb5 zB) : w.heap.size ≤ gb394)); have n3_ := n2_; clear HB; have HB := n0_; have BK394 := n1_; have GW394 := n2_; have GE394 := n3_; clear n0_ n1_ n2_ n3_; clear hb hbox hg)); try go_wp2_with (first | ((with_reducible refine gate_dst (N := 3) rfl ?_); refine box_event ?hg (N := 3) ?hd (cs := #[.int .i64 a1_0, .int .i64 a1_1]) (t := 44) ?hr ?_; (case hd => rfl); (case hg => rfl); (case hr => first | (go_simp; done) | (go_simp; rfl)); intro gb394 hg w3 hbox hb; have n0_ := am (Bb6 zB hb); have n1_ := am (hbox); have n2_ := am ((by rw [hg]; exact (Bb5 zB) : w.heap.size ≤ gb394)); have n3_ := n2_; clear HB; have HB := n0_; have BK394 := n1_; have GW394 := n2_; have GE394 := n3_; clear n0_ n1_ n2_ n3_; clear hb hbox hg)))
 go_loopg [8] k (fun kq v8 w' => ∃ (x8_1 : Int), v8 = .int .i64 x8_1 ∧ Aside0 (impl_Cell_66.l0 kq l0 (l0.length : Int) x8_1 a1_0 a1_1 = some r) ∧ Aside0 (kq ≤ k) ∧ Aside0 (w'.heap[gb394]? = some (.cells #[.int .i64 a1_0, .int .i64 a1_1] 44 (0, 0))) ∧ Aside0 (Below w.heap.size w w'))
 case atStart => exact ⟨(0), zS, H', ⟨Nat.le_refl _⟩, ⟨zK BK394⟩, ⟨by repeat (first | (with_reducible first | exact HB.out | apply Bb1 | apply Bb2 | apply Bb3 | refine Bb4 ?_ GE394.out) | exact HB.out)⟩⟩
 case round =>
  clear H'
  try clear p2
  obtain ⟨x8_1, rfl, HA, HK1, BK394, HB⟩ := hrel
  cases gk with
  | zero => exact absurd HA.out (by simp [impl_Cell_66.l0])
  | succ k1 =>
   have H := HA.out
   clear HA
   simp only [impl_Cell_66.l0] at H
   by_cases c4 : x8_1 < (l0.length : Int)
   rotate_left
   ·rw [if_neg c4] at H
    have c4b0 : decide (x8_1 < (l0.length : Int)) = false := decide_eq_false c4
    clear c4
    obtain rfl := oi H
    go_wp2
    repeat (go_quiet (fail); try go_wp2)
    go_ret
    exact ⟨zE, by repeat (first | (with_reducible first | exact HB.out | apply Bb1 | apply Bb2 | apply Bb3 | refine Bb4 ?_ GE394.out) | exact HB.out)⟩
   rw [if_pos c4] at H
   have c4b0 : decide (x8_1 < (l0.length : Int)) = true := decide_eq_true c4
   clear c4
   by_cases c5 : 0 ≤ x8_1
   rotate_left
   ·rw [if_neg c5] at H
    exact absurd H (by simp)
   rw [if_pos c5] at H
   have c5b0 : decide (0 ≤ x8_1) = true := decide_eq_true c5
   clear c5
   by_cases c6 : x8_1 < (l0.length : Int)
   rotate_left
   ·rw [if_neg c6] at H
    exact absurd H (by simp)
   rw [if_pos c6] at H
   have c6b0 : decide (x8_1 < (l0.length : Int)) = true := decide_eq_true c6
   clear c6
   by_cases c7 : (a1_0 == ((rd_T44 l0 x8_1).f0) && (a1_1 == ((rd_T44 l0 x8_1).f1))) = true
   ·rw [if_pos c7] at H
    have c7b0 : (a1_0 == ((rd_T44 l0 x8_1).f0) && (a1_1 == ((rd_T44 l0 x8_1).f1))) = true := c7
    (try (have c7b1 : decide (a1_0 = ((rd_T44 l0 x8_1).f0) && (a1_1 == ((rd_T44 l0 x8_1).f1))) = true := by simpa using c7))
    (try (have c7b2 : (a1_0 == ((rd_T44 l0 x8_1).f0) && (a1_1 == ((rd_T44 l0 x8_1).f1))) = true := by simpa using c7))
    clear c7
    obtain rfl := oi H
    have hcz8_0 : wr.cell? ⟨gb394, 0, none⟩ = some (.int .i64 a1_0) := (kc BK394.out 0).trans rfl
    have hcz8_1 : wr.cell? ⟨gb394, 1, none⟩ = some (.int .i64 a1_1) := (kc BK394.out 1).trans rfl
    have hfz8_0 := kf BK394.out 0
    have hfz8_1 := kf BK394.out 1
    have p395 : 0 ≤ (x8_1 : Int) := zD
    have q395 : x8_1 < (l0.length : Int) := zD
    obtain ⟨ad395, e395, hx395_0, hx395_1⟩ := at_T44 HR0.out x8_1 p395 q395
    cases e395
    replace hx395_0 := pc HB.out hx395_0
    replace hx395_1 := pc HB.out hx395_1
    replace p395 := eq_true p395
    replace q395 := eq_true q395
    go_wp2
    repeat (go_quiet (fail); try go_wp2)
    go_ret
    exact ⟨zE, by repeat (first | (with_reducible first | exact HB.out | apply Bb1 | apply Bb2 | apply Bb3 | refine Bb4 ?_ GE394.out) | exact HB.out)⟩
   rw [if_neg c7] at H
   have c7b0 : (a1_0 == ((rd_T44 l0 x8_1).f0) && (a1_1 == ((rd_T44 l0 x8_1).f1))) = false := by simpa using c7
   (try (have c7b1 : decide (a1_0 = ((rd_T44 l0 x8_1).f0) && (a1_1 == ((rd_T44 l0 x8_1).f1))) = false := by simpa using c7))
   (try (have c7b2 : (a1_0 == ((rd_T44 l0 x8_1).f0) && (a1_1 == ((rd_T44 l0 x8_1).f1))) = false := by simpa using c7))
   (try (have c7b3 : ¬ (a1_0 = ((rd_T44 l0 x8_1).f0) && (a1_1 == ((rd_T44 l0 x8_1).f1))) := by simpa using c7))
   clear c7
   have H' := am H
   clear H
   have hcz9_0 : wr.cell? ⟨gb394, 0, none⟩ = some (.int .i64 a1_0) := (kc BK394.out 0).trans rfl
   have hcz9_1 : wr.cell? ⟨gb394, 1, none⟩ = some (.int .i64 a1_1) := (kc BK394.out 1).trans rfl
   have hfz9_0 := kf BK394.out 0
   have hfz9_1 := kf BK394.out 1
   have p395 : 0 ≤ (x8_1 : Int) := zD
   have q395 : x8_1 < (l0.length : Int) := zD
   obtain ⟨ad395, e395, hx395_0, hx395_1⟩ := at_T44 HR0.out x8_1 p395 q395
   cases e395
   replace hx395_0 := pc HB.out hx395_0
   replace hx395_1 := pc HB.out hx395_1
   replace p395 := eq_true p395
   replace q395 := eq_true q395
   go_wp2
   repeat (go_quiet (fail); try go_wp2)
   go_roundg k1
   case measure => have := HK1.out; omega
   case rel => exact ⟨(wrap64 (x8_1 + 1)), zS, H', ⟨by have := HK1.out; omega⟩, ⟨zK BK394⟩, ⟨by repeat (first | (with_reducible first | exact HB.out | apply Bb1 | apply Bb2 | apply Bb3 | refine Bb4 ?_ GE394.out) | exact HB.out)⟩⟩

/-! ### impl_Cell_41: function 41 -/
def impl_Cell_41.f (k : Nat) (l0 : List (S44)) (a1_0 : Int) (a1_1 : Int) : Option (Bool) := (impl_Cell_66.f k l0 a1_0 a1_1).bind fun t397 => (some (decide (t397 ≥ 0)))
theorem impl_Cell_41.mono : ∀ a0 a1 a2 k, LeO (impl_Cell_41.f k a0 a1 a2) (impl_Cell_41.f (k + 1) a0 a1 a2) := by
 intro a0 a1 a2 k
 unfold impl_Cell_41.f
 with_reducible repeat' first | exact impl_Cell_66.mono _ _ _ _ | exact LeO.refl _ | exact LeO.none _ | refine LeO.ite ?_ ?_ | refine LeO.bind ?_ (fun _ => ?_)
set_option maxHeartbeats 8000000 in
set_option maxRecDepth 100000 in
theorem impl_Cell_41.calls (k : Nat) (A0 : Option Addr) (c0 : Nat) (l0 : List (S44)) (a1_0 : Int) (a1_1 : Int) (r : Bool) (w : World) (hr0 : Kd.C k44 w A0 l0.length l0) (hc0 : l0.length ≤ c0) (h : impl_Cell_41.f k l0 a1_0 a1_1 = some r) :
  Calls Tryz.prog 41 #[.slice A0 l0.length c0, .agg #[.int .i64 a1_0, .int .i64 a1_1]] w fun e w' => e = .returned (.bool r) ∧ Below w.heap.size w w' := by
 have hu44 := Tryz.underlying44
 have HR0 := am hr0
 have HC0 := am hc0
 clear hr0 hc0
 have HB := am (Below.refl w.heap.size w)
 have H : ((impl_Cell_66.f k l0 a1_0 a1_1).bind fun t397 => (some (decide (t397 ≥ 0)))) = some r := h
 clear h
 replace H := ob H
 obtain ⟨t397, A30, H⟩ := H
 replace H : (some (decide (t397 ≥ 0))) = some r := H
 have A3 := am A30
 clear A30
 obtain rfl := oi H
 go_enter Tryz.func41, Tryz.ntmps41
 go_wp2_with (first | ((with_reducible refine gate_dst (N := 3) rfl ?_); refine box_event ?hg (N := 3) ?hd (cs := #[.int .i64 a1_0, .int .i64 a1_1]) (t := 44) ?hr ?_; (case hd => rfl); (case hg => rfl); (case hr => first | (go_simp; done) | (go_simp; rfl)); intro gb396 hg w4 hbox hb; have n0_ := am (Bb6 zB hb); have n1_ := am (hbox); have n2_ := am ((by rw [hg]; exact (Bb5 zB) : w.heap.size ≤ gb396)); have n3_ := n2_; clear HB; have HB := n0_; have BK396 := n1_; have GW396 := n2_; have GE396 := n3_; clear n0_ n1_ n2_ n3_; clear hb hbox hg; have hcz5_0 : w4.cell? ⟨gb396, 0, none⟩ = some (.int .i64 a1_0) := (kc BK396.out 0).trans rfl; have hcz5_1 : w4.cell? ⟨gb396, 1, none⟩ = some (.int .i64 a1_1) := (kc BK396.out 1).trans rfl; have hfz5_0 := kf BK396.out 0; have hfz5_1 := kf BK396.out 1) | ((with_reducible refine gate_callee (f := 66) rfl ?_); refine goesL_ (some 7) rfl rfl Tryz.func66 (by kernel_rfl) rfl #[.slice A0 l0.length c0, .agg #[.int .i64 a1_0, .int .i64 a1_1]] rfl zL ?_; (with_reducible refine (impl_Cell_66.calls k _ _ l0 a1_0 a1_1 t397 _ ?side1 ?side2 A3.out).mono ?_); (case side1 => repeat (first | exact (Kd.C_below HR0.out HB.out) | (with_reducible refine Kd.C_alloc ?_ _) | (with_reducible refine Kd.C_drewN ?_ _) | (with_reducible refine Kd.C_drew ?_))); (case side2 => exact HC0.out); rintro e w6 ⟨rfl, hb⟩; refine ⟨_, rfl, ?_⟩; have n0_ := am (Bk4 (g := gb396) (o := .cells #[.int .i64 a1_0, .int .i64 a1_1] 44 (0, 0)) (zK BK396) hb); have n1_ := am (Bb6 (by repeat (first | (with_reducible first | exact HB.out | apply Bb1 | apply Bb2 | apply Bb3 | refine Bb4 ?_ GE396.out) | exact HB.out)) hb); clear BK396; clear HB; have BK396 := n0_; have HB := n1_; clear n0_ n1_; (try clear hb); (try clear hb2); (try clear hk); (try clear hi)))
 go_ret
 exact ⟨zE, by repeat (first | (with_reducible first | exact HB.out | apply Bb1 | apply Bb2 | apply Bb3 | refine Bb4 ?_ GE396.out) | exact HB.out)⟩

/-! ### impl_Cell_64: function 64 -/
def impl_Cell_64.l0 : Nat → List (S44) → List (S44) → Int → Int → Option (Bool)
 | 0, _, _, _, _ => none
 | k + 1, x0, x1, x12, x13 => if x13 < x12 then (if 0 ≤ x13 then (if x13 < (x0.length : Int) then (if x13 < (x1.length : Int) then (if (!(((rd_T44 x0 x13).f0) == ((rd_T44 x1 x13).f0)) || (!(((rd_T44 x0 x13).f1) == ((rd_T44 x1 x13).f1)))) = true then (some false) else (impl_Cell_64.l0 k x0 x1 x12 (wrap64 (x13 + 1)))) else (none)) else (none)) else (none)) else (some true)
def impl_Cell_64.f (k : Nat) (l0 : List (S44)) (l1 : List (S44)) : Option (Bool) := if (l0.length : Int) = (l1.length : Int) then (impl_Cell_64.l0 k l0 l1 (l0.length : Int) 0) else (some false)
theorem impl_Cell_64.mono_l : ∀ k, (∀ y0 y1 y2 y3, LeO (impl_Cell_64.l0 k y0 y1 y2 y3) (impl_Cell_64.l0 (k + 1) y0 y1 y2 y3))
 | 0 => fun _ _ _ _ r h => by simp [impl_Cell_64.l0] at h
 | k + 1 => by
  have ih0 := impl_Cell_64.mono_l k
  ·intro y0 y1 y2 y3
   unfold impl_Cell_64.l0
   with_reducible repeat' first | exact ih0 _ _ _ _ | exact LeO.refl _ | exact LeO.none _ | refine LeO.ite ?_ ?_ | refine LeO.bind ?_ (fun _ => ?_)
theorem impl_Cell_64.mono : ∀ a0 a1 k, LeO (impl_Cell_64.f k a0 a1) (impl_Cell_64.f (k + 1) a0 a1) := by
 intro a0 a1 k
 have ih0 := impl_Cell_64.mono_l k
 unfold impl_Cell_64.f
 with_reducible repeat' first | exact ih0 _ _ _ _ | exact LeO.refl _ | exact LeO.none _ | refine LeO.ite ?_ ?_ | refine LeO.bind ?_ (fun _ => ?_)
set_option maxHeartbeats 8000000 in
set_option maxRecDepth 100000 in
theorem impl_Cell_64.calls (k : Nat) (A0 : Option Addr) (c0 : Nat) (l0 : List (S44)) (A1 : Option Addr) (c1 : Nat) (l1 : List (S44)) (r : Bool) (w : World) (hr0 : Kd.C k44 w A0 l0.length l0) (hc0 : l0.length ≤ c0) (hr1 : Kd.C k44 w A1 l1.length l1) (hc1 : l1.length ≤ c1) (h : impl_Cell_64.f k l0 l1 = some r) :
  Calls Tryz.prog 64 #[.slice A0 l0.length c0, .slice A1 l1.length c1] w fun e w' => e = .returned (.bool r) ∧ Drawn0 w w' := by
 have hu44 := Tryz.underlying44
 have HR0 := am hr0
 have HC0 := am hc0
 clear hr0 hc0
 have HR1 := am hr1
 have HC1 := am hc1
 clear hr1 hc1
 have H : (if (l0.length : Int) = (l1.length : Int) then (impl_Cell_64.l0 k l0 l1 (l0.length : Int) 0) else (some false)) = some r := h
 clear h
 by_cases c3 : (l0.length : Int) = (l1.length : Int)
 rotate_left
 ·rw [if_neg c3] at H
  have c3b0 : ((l0.length : Int) == (l1.length : Int)) = false := beq_eq_false_iff_ne.mpr c3
  have c3b1 : ((l0.length : Int) != (l1.length : Int)) = true := bne_iff_ne.mpr c3
  have c3b2 : (l0.length == l1.length) = false := by first | simpa using c3 | (simp at c3 ⊢; omega)
  obtain rfl := oi H
  go_enter Tryz.func64, Tryz.ntmps64
  go_wp2
  repeat (go_quiet (fail); try go_wp2)
  go_ret
  exact ⟨by first | rfl | (simp; done) | (simp [*]; done), by repeat (first | exact Drawn0.refl _ | apply Drawn0.step)⟩
 rw [if_pos c3] at H
 have c3b0 : ((l0.length : Int) == (l1.length : Int)) = true := beq_iff_eq.mpr c3
 have c3b1 : ((l0.length : Int) != (l1.length : Int)) = false := bne_eq_false_iff_eq.mpr c3
 have c3b2 : (l0.length == l1.length) = true := by first | simpa using c3 | (simp at c3 ⊢; omega)
 clear c3
 have H' := am H
 clear H
 go_enter Tryz.func64, Tryz.ntmps64
 go_wp2
 repeat (go_quiet (fail); try go_wp2)
 go_loopg [13] k (fun kq v13 w' => ∃ (x13_1 : Int), v13 = .int .i64 x13_1 ∧ Aside0 (impl_Cell_64.l0 kq l0 l1 (l0.length : Int) x13_1 = some r) ∧ Aside0 (kq ≤ k) ∧ Drawn0 w w')
 case atStart => exact ⟨(0), zS, H', ⟨Nat.le_refl _⟩, by repeat (first | exact Drawn0.refl _ | apply Drawn0.step)⟩
 case round =>
  clear H'
  try clear c1
  try clear p2
  try clear c3
  try clear c3b0
  try clear c3b1
  try clear c3b2
  obtain ⟨x13_1, rfl, HA, HK1, ⟨m1, rfl⟩⟩ := hrel
  cases gk with
  | zero => exact absurd HA.out (by simp [impl_Cell_64.l0])
  | succ k1 =>
   have H := HA.out
   clear HA
   simp only [impl_Cell_64.l0] at H
   by_cases c4 : x13_1 < (l0.length : Int)
   rotate_left
   ·rw [if_neg c4] at H
    have c4b0 : decide (x13_1 < (l0.length : Int)) = false := decide_eq_false c4
    clear c4
    obtain rfl := oi H
    go_wp2
    repeat (go_quiet (fail); try go_wp2)
    go_ret
    exact ⟨by first | rfl | (simp; done) | (simp [*]; done), by repeat (first | exact Drawn0.refl _ | apply Drawn0.step)⟩
   rw [if_pos c4] at H
   have c4b0 : decide (x13_1 < (l0.length : Int)) = true := decide_eq_true c4
   clear c4
   by_cases c5 : 0 ≤ x13_1
   rotate_left
   ·rw [if_neg c5] at H
    exact absurd H (by simp)
   rw [if_pos c5] at H
   have c5b0 : decide (0 ≤ x13_1) = true := decide_eq_true c5
   clear c5
   by_cases c6 : x13_1 < (l0.length : Int)
   rotate_left
   ·rw [if_neg c6] at H
    exact absurd H (by simp)
   rw [if_pos c6] at H
   have c6b0 : decide (x13_1 < (l0.length : Int)) = true := decide_eq_true c6
   clear c6
   by_cases c7 : x13_1 < (l1.length : Int)
   rotate_left
   ·rw [if_neg c7] at H
    exact absurd H (by simp)
   rw [if_pos c7] at H
   have c7b0 : decide (x13_1 < (l1.length : Int)) = true := decide_eq_true c7
   clear c7
   by_cases c8 : (!(((rd_T44 l0 x13_1).f0) == ((rd_T44 l1 x13_1).f0)) || (!(((rd_T44 l0 x13_1).f1) == ((rd_T44 l1 x13_1).f1)))) = true
   ·rw [if_pos c8] at H
    have c8b0 : (!(((rd_T44 l0 x13_1).f0) == ((rd_T44 l1 x13_1).f0)) || (!(((rd_T44 l0 x13_1).f1) == ((rd_T44 l1 x13_1).f1)))) = true := c8
    clear c8
    obtain rfl := oi H
    have p414 : 0 ≤ (x13_1 : Int) := zD
    have q414 : x13_1 < (l0.length : Int) := zD
    obtain ⟨ad414, e414, hx414_0, hx414_1⟩ := at_T44 HR0.out x13_1 p414 q414
    cases e414
    replace p414 := eq_true p414
    replace q414 := eq_true q414
    have p415 : 0 ≤ (x13_1 : Int) := zD
    have q415 : x13_1 < (l1.length : Int) := zD
    obtain ⟨ad415, e415, hx415_0, hx415_1⟩ := at_T44 HR1.out x13_1 p415 q415
    cases e415
    replace p415 := eq_true p415
    replace q415 := eq_true q415
    go_wp2
    repeat (go_quiet (fail); try go_wp2)
    go_ret
    exact ⟨by first | rfl | (simp; done) | (simp [*]; done), by repeat (first | exact Drawn0.refl _ | apply Drawn0.step)⟩
   rw [if_neg c8] at H
   have c8b0 : (!(((rd_T44 l0 x13_1).f0) == ((rd_T44 l1 x13_1).f0)) || (!(((rd_T44 l0 x13_1).f1) == ((rd_T44 l1 x13_1).f1)))) = false := by simpa using c8
   clear c8
   have H' := am H
   clear H
   have p414 : 0 ≤ (x13_1 : Int) := zD
   have q414 : x13_1 < (l0.length : Int) := zD
   obtain ⟨ad414, e414, hx414_0, hx414_1⟩ := at_T44 HR0.out x13_1 p414 q414
   cases e414
   replace p414 := eq_true p414
   replace q414 := eq_true q414
   have p415 : 0 ≤ (x13_1 : Int) := zD
   have q415 : x13_1 < (l1.length : Int) := zD
   obtain ⟨ad415, e415, hx415_0, hx415_1⟩ := at_T44 HR1.out x13_1 p415 q415
   cases e415
   replace p415 := eq_true p415
   replace q415 := eq_true q415
   go_wp2
   repeat (go_quiet (fail); try go_wp2)
   go_roundg k1
   case measure => have := HK1.out; omega
   case rel => exact ⟨(wrap64 (x13_1 + 1)), zS, H', ⟨by have := HK1.out; omega⟩, by repeat (first | exact Drawn0.refl _ | apply Drawn0.step)⟩

/-! ### impl_equalShapes: function 94 -/
def impl_equalShapes.f (k : Nat) (l0 : List (S44)) (l1 : List (S44)) : Option (Bool) := (impl_Cell_64.f k l0 l1).bind fun t416 => (some t416)
theorem impl_equalShapes.mono : ∀ a0 a1 k, LeO (impl_equalShapes.f k a0 a1) (impl_equalShapes.f (k + 1) a0 a1) := by
 intro a0 a1 k
 unfold impl_equalShapes.f
 with_reducible repeat' first | exact impl_Cell_64.mono _ _ _ | exact LeO.refl _ | exact LeO.none _ | refine LeO.ite ?_ ?_ | refine LeO.bind ?_ (fun _ => ?_)
set_option maxHeartbeats 8000000 in
set_option maxRecDepth 100000 in
theorem impl_equalShapes.calls (k : Nat) (A0 : Option Addr) (c0 : Nat) (l0 : List (S44)) (A1 : Option Addr) (c1 : Nat) (l1 : List (S44)) (r : Bool) (w : World) (hr0 : Kd.C k44 w A0 l0.length l0) (hc0 : l0.length ≤ c0) (hr1 : Kd.C k44 w A1 l1.length l1) (hc1 : l1.length ≤ c1) (h : impl_equalShapes.f k l0 l1 = some r) :
  Calls Tryz.prog 94 #[.slice A0 l0.length c0, .slice A1 l1.length c1] w fun e w' => e = .returned (.bool r) ∧ Drawn0 w w' := by
 have HR0 := am hr0
 have HC0 := am hc0
 clear hr0 hc0
 have HR1 := am hr1
 have HC1 := am hc1
 clear hr1 hc1
 have H : ((impl_Cell_64.f k l0 l1).bind fun t416 => (some t416)) = some r := h
 clear h
 replace H := ob H
 obtain ⟨t416, A30, H⟩ := H
 replace H : (some t416) = some r := H
 have A3 := am A30
 clear A30
 obtain rfl := oi H
 go_enter Tryz.func94, Tryz.ntmps94
 go_wp2_with (first | ((with_reducible refine gate_callee (f := 64) rfl ?_); refine goesL_ (some 7) rfl rfl Tryz.func64 (by kernel_rfl) rfl #[.slice A0 l0.length c0, .slice A1 l1.length c1] rfl zL ?_; (with_reducible refine (impl_Cell_64.calls k _ _ l0 _ _ l1 t416 _ ?side1 ?side2 ?side3 ?side4 A3.out).mono ?_); (case side1 => repeat (first | exact HR0.out | (with_reducible refine Kd.C_alloc ?_ _) | (with_reducible refine Kd.C_drewN ?_ _) | (with_reducible refine Kd.C_drew ?_))); (case side2 => exact HC0.out); (case side3 => repeat (first | exact HR1.out | (with_reducible refine Kd.C_alloc ?_ _) | (with_reducible refine Kd.C_drewN ?_ _) | (with_reducible refine Kd.C_drew ?_))); (case side4 => exact HC1.out); rintro e w' ⟨rfl, ⟨nd, rfl⟩⟩; refine ⟨_, rfl, ?_⟩))
 go_ret
 exact ⟨by first | rfl | (simp; done) | (simp [*]; done), by repeat (first | exact Drawn0.refl _ | apply Drawn0.step)⟩

end Go.Proofs.YtbbhohaenijaoaaGreat.Q
