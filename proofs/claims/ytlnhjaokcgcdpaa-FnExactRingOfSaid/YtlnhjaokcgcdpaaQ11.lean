/- Written by a program of this session (wip/tools/pp.py) out of the translation, with the kit's printer. -/
import Derived.Test.YtlnhjaokcgcdpaaQ0
import Derived.Test.YtlnhjaokcgcdpaaQ1
namespace Go.Proofs.Ytlnhjaokcgcdpaa.Q
open Go.RowKit Go.Proofs.YtlnhjaokcgcdpaaW.PrintWords Go.Proofs.YtlnhjaokcgcdpaaW.PrintLast Go.Proofs.YtlnhjaokcgcdpaaW.PrintMore
attribute [local go_sem] max2_int min2_int max_two min_two max_three min_three max_four min_four
set_option linter.unusedVariables false
set_option linter.unusedSimpArgs false

attribute [local go_sem high] eqA34
/-! ### impl_cornersAround: function 16 -/
mutual
def impl_cornersAround.l0 : Nat → List (S34) → Int → Int → Int → Option ((List (S34)))
 | 0, _, _, _, _ => none
 | k + 1, x3, x4, x183000, x183001 => if x4 ≤ (wrap64 (x183001 + 1)) then (impl_cornersAround.l1 k x3 x4 (wrap64 (x183000 - 1)) x183000 x183001) else (some x3)
def impl_cornersAround.l1 : Nat → List (S34) → Int → Int → Int → Int → Option ((List (S34)))
 | 0, _, _, _, _, _ => none
 | k + 1, x3, x4, x5, x183000, x183001 => if x5 ≤ (wrap64 (x183000 + 1)) then (if (!(x5 == x183000) || (!(x4 == x183001))) = true then (if x3.length < 8796093022208 then (impl_cornersAround.l1 k (x3 ++ [(⟨x5, x4⟩ : S34)]) x4 (wrap64 (x5 + 1)) x183000 x183001) else (none)) else (impl_cornersAround.l1 k x3 x4 (wrap64 (x5 + 1)) x183000 x183001)) else (impl_cornersAround.l0 k x3 (wrap64 (x4 + 1)) x183000 x183001)
end
def impl_cornersAround.f (k : Nat) (a0_0 : Int) (a0_1 : Int) : Option ((List (S34))) := impl_cornersAround.l0 k (([] : List (S34))) (wrap64 (a0_1 - 1)) a0_0 a0_1
theorem impl_cornersAround.mono_l : ∀ k, (∀ y0 y1 y2 y3, LeO (impl_cornersAround.l0 k y0 y1 y2 y3) (impl_cornersAround.l0 (k + 1) y0 y1 y2 y3)) ∧ (∀ y0 y1 y2 y3 y4, LeO (impl_cornersAround.l1 k y0 y1 y2 y3 y4) (impl_cornersAround.l1 (k + 1) y0 y1 y2 y3 y4))
 | 0 => ⟨fun _ _ _ _ r h => by simp [impl_cornersAround.l0] at h, fun _ _ _ _ _ r h => by simp [impl_cornersAround.l1] at h⟩
 | k + 1 => by
  obtain ⟨ih0, ih1⟩ := impl_cornersAround.mono_l k
  refine ⟨?_, ?_⟩
  ·intro y0 y1 y2 y3
   unfold impl_cornersAround.l0
   repeat' first
   | (with_reducible exact ih0 _ _ _ _)
   | (with_reducible exact ih1 _ _ _ _ _)
   | (with_reducible exact LeO.refl _)
   | (with_reducible exact LeO.none _)
   | (with_reducible refine LeO.ite ?_ ?_)
   | (with_reducible refine LeO.bind ?_ (fun _ => ?_))
   | exact ih0 _ _ _ _
   | exact ih1 _ _ _ _ _
   | exact LeO.none _
   | refine LeO.ite ?_ ?_
   | refine LeO.bind ?_ (fun _ => ?_)
  ·intro y0 y1 y2 y3 y4
   unfold impl_cornersAround.l1
   repeat' first
   | (with_reducible exact ih0 _ _ _ _)
   | (with_reducible exact ih1 _ _ _ _ _)
   | (with_reducible exact LeO.refl _)
   | (with_reducible exact LeO.none _)
   | (with_reducible refine LeO.ite ?_ ?_)
   | (with_reducible refine LeO.bind ?_ (fun _ => ?_))
   | exact ih0 _ _ _ _
   | exact ih1 _ _ _ _ _
   | exact LeO.none _
   | refine LeO.ite ?_ ?_
   | refine LeO.bind ?_ (fun _ => ?_)
theorem impl_cornersAround.mono : ∀ a0 a1 k, LeO (impl_cornersAround.f k a0 a1) (impl_cornersAround.f (k + 1) a0 a1) := by
 intro a0 a1 k
 obtain ⟨ih0, ih1⟩ := impl_cornersAround.mono_l k
 unfold impl_cornersAround.f
 repeat' first
   | (with_reducible exact ih0 _ _ _ _)
   | (with_reducible exact ih1 _ _ _ _ _)
   | (with_reducible exact LeO.refl _)
   | (with_reducible exact LeO.none _)
   | (with_reducible refine LeO.ite ?_ ?_)
   | (with_reducible refine LeO.bind ?_ (fun _ => ?_))
   | exact ih0 _ _ _ _
   | exact ih1 _ _ _ _ _
   | exact LeO.none _
   | refine LeO.ite ?_ ?_
   | refine LeO.bind ?_ (fun _ => ?_)
set_option maxHeartbeats 8000000 in
set_option maxRecDepth 100000 in
theorem impl_cornersAround.calls (k : Nat) (a0_0 : Int) (a0_1 : Int) (r : List (S34)) (w : World) (h : impl_cornersAround.f k a0_0 a0_1 = some r) :
  Calls Try.prog 16 #[.agg #[.int .i64 a0_0, .int .i64 a0_1]] w fun e w' => ∃ v0_ : Value, e = .returned (v0_) ∧ Kd.R k34 34 w' w.heap.size (fun _ => True) v0_ r ∧ Below w.heap.size w w' := by
 have hu34 := Try.underlying34
 have HB := am (Below.refl w.heap.size w)
 have H : (impl_cornersAround.l0 k (([] : List (S34))) (wrap64 (a0_1 - 1)) a0_0 a0_1) = some r := h
 clear h
 obtain ⟨y183, hy183⟩ : ∃ y_ : List (S34), y_ = (([] : List (S34))) := ⟨_, rfl⟩
 replace H : (impl_cornersAround.l0 k y183 (wrap64 (a0_1 - 1)) a0_0 a0_1) = some r := by first | (rw [hy183]; with_reducible exact H) | (have H2_ := (Option.bind_some _ _).symm.trans H; rw [hy183]; with_reducible exact H2_) | (have H2_ := (Option.bind_some _ _).symm.trans H; with_reducible exact H2_) | with_reducible exact H | (rw [hy183]; exact H) | exact H
 have Ny183 := am hy183
 clear hy183
 have H' := am H
 clear H
 go_enter Try.func16, Try.ntmps16
 go_wp2_with (first | ((with_reducible refine gate_dst (N := 1) rfl ?_); refine box_event ?hg (N := 1) ?hd (cs := #[.int .i64 a0_0, .int .i64 a0_1]) (t := 34) ?hr ?_; (case hd => rfl); (case hg => rfl); (case hr => first | (go_simp; done) | (go_simp; rfl)); intro gb182 hg w2 hbox hb; have n0_ := am (Bb6 (by repeat (first | (with_reducible first | exact HB.out | apply Bb1 | apply Bb2 | apply Bb3) | exact HB.out)) hb); have n1_ := am (hbox); have n2_ := am ((by rw [hg]; exact (Bb5 (by repeat (first | (with_reducible first | exact HB.out | apply Bb1 | apply Bb2 | apply Bb3) | exact HB.out))) : w.heap.size ≤ gb182)); have n3_ := n2_; clear HB; have HB := n0_; have BK182 := n1_; have GW182 := n2_; have GE182 := n3_; clear n0_ n1_ n2_ n3_; clear hb hbox hg) | ((with_reducible refine gate_dst (N := 7) rfl ?_); refine Kd.R_lit k34 _ 34 ?hg (N := 7) ?hd (xs := ([] : List (S34))) (inner := []) (ok := fun _ => True) (okp := fun _ => True) ?hr ?hp (fun _ hk => hk) trivial (Below.refl _ _) (Nat.le_refl _) (by simp) ?_; (case hd => rfl); (case hg => rfl); (case hr => first | (go_simp; done) | (go_simp; rfl)); (case hp => exact (Reps.none _ _)); intro v184 w3 ho4 hb hg_ hnew_; clear hg_ hnew_; (first | rw [← Ny183.out] at ho4 | (simp only [Int.reduceToNat] at ho4; rw [← Ny183.out] at ho4)); have n0_ := am (Kd.R_lower (Kd.R_newB ho4 (g := gb182) (o := .cells #[.int .i64 a0_0, .int .i64 a0_1] 34 (0, 0)) (by (with_reducible repeat (first | refine Bk2 ?_ _ | refine Bk3 ?_ | refine Bk1 ?_ _)); exact BK182.out)) (Bb5 (by repeat (first | (with_reducible first | exact HB.out | apply Bb1 | apply Bb2 | apply Bb3 | refine Bb4 ?_ GE182.out) | exact HB.out)))); have n1_ := am (Bk4 (g := gb182) (o := .cells #[.int .i64 a0_0, .int .i64 a0_1] 34 (0, 0)) (by (with_reducible repeat (first | refine Bk2 ?_ _ | refine Bk3 ?_ | refine Bk1 ?_ _)); exact BK182.out) hb); have n2_ := am (Bb6 (by repeat (first | (with_reducible first | exact HB.out | apply Bb1 | apply Bb2 | apply Bb3 | refine Bb4 ?_ GE182.out) | exact HB.out)) hb); clear BK182; clear HB; have HO185 := n0_; have BK182 := n1_; have HB := n2_; clear n0_ n1_ n2_; clear hb ho4; have hcz5_0 : w3.cell? ⟨gb182, 0, none⟩ = some (.int .i64 a0_0) := (kc BK182.out 0).trans rfl; have hcz5_1 : w3.cell? ⟨gb182, 1, none⟩ = some (.int .i64 a0_1) := (kc BK182.out 1).trans rfl; have hfz5_0 := kf BK182.out 0; have hfz5_1 := kf BK182.out 1))
 go_loopg [3, 4] k (fun kq v3 v4 w' => ∃ (x3_1 : List (S34)) (x4_1 : Int), v4 = .int .i64 x4_1 ∧ Aside0 (impl_cornersAround.l0 kq x3_1 x4_1 a0_0 a0_1 = some r) ∧ Aside0 (kq ≤ k) ∧ Aside0 (Kd.R k34 34 w' w.heap.size (fun k_ => k_ ≠ gb182) v3 x3_1) ∧ Aside0 (w'.heap[gb182]? = some (.cells #[.int .i64 a0_0, .int .i64 a0_1] 34 (0, 0))) ∧ Aside0 (Below w.heap.size w w'))
 case atStart => exact ⟨(y183), (wrap64 (a0_1 - 1)), (by first | rfl | (simp; done) | (simp [*]; done)), H', ⟨Nat.le_refl _⟩, ⟨by (with_reducible repeat (first | apply Kd.R_alloc | apply Kd.R_drewN | apply Kd.R_drew)); exact Kd.R_mono HO185.out (fun _ hk => hk.2)⟩, ⟨by (with_reducible repeat (first | refine Bk2 ?_ _ | refine Bk3 ?_ | refine Bk1 ?_ _)); exact BK182.out⟩, ⟨by repeat (first | (with_reducible first | exact HB.out | apply Bb1 | apply Bb2 | apply Bb3 | refine Bb4 ?_ GE182.out) | exact HB.out)⟩⟩
 case round =>
  clear H'
  try clear c1
  try clear p2
  try clear hcz5_0
  try clear hcz5_1
  try clear hfz5_0
  try clear hfz5_1
  obtain ⟨x3_1, x4_1, rfl, HA, HK1, HO_3, BK182, HB⟩ := hrel
  cases gk with
  | zero => exact absurd HA.out (by simp [impl_cornersAround.l0])
  | succ k1 =>
   have H := HA.out
   clear HA
   simp only [impl_cornersAround.l0] at H
   by_cases c6 : x4_1 ≤ (wrap64 (a0_1 + 1))
   ·rw [if_pos c6] at H
    have c6b0 : decide (x4_1 ≤ (wrap64 (a0_1 + 1))) = true := decide_eq_true c6
    clear c6
    have H' := am H
    clear H
    have hcz7_0 : wr.cell? ⟨gb182, 0, none⟩ = some (.int .i64 a0_0) := (kc BK182.out 0).trans rfl
    have hcz7_1 : wr.cell? ⟨gb182, 1, none⟩ = some (.int .i64 a0_1) := (kc BK182.out 1).trans rfl
    have hfz7_0 := kf BK182.out 0
    have hfz7_1 := kf BK182.out 1
    go_wp2
    go_loopg [3, 5] k1 (fun kq v3 v5 w' => ∃ (x3_2 : List (S34)) (x5_2 : Int), v5 = .int .i64 x5_2 ∧ Aside0 (impl_cornersAround.l1 kq x3_2 x4_1 x5_2 a0_0 a0_1 = some r) ∧ Aside0 (kq ≤ k1) ∧ Aside0 (Kd.R k34 34 w' w.heap.size (fun k_ => k_ ≠ gb182) v3 x3_2) ∧ Aside0 (w'.heap[gb182]? = some (.cells #[.int .i64 a0_0, .int .i64 a0_1] 34 (0, 0))) ∧ Aside0 (Below w.heap.size w w'))
    case atStart => exact ⟨(x3_1), (wrap64 (a0_0 - 1)), (by first | rfl | (simp; done) | (simp [*]; done)), H', ⟨Nat.le_refl _⟩, ⟨by (with_reducible repeat (first | apply Kd.R_alloc | apply Kd.R_drewN | apply Kd.R_drew)); exact HO_3.out⟩, ⟨by (with_reducible repeat (first | refine Bk2 ?_ _ | refine Bk3 ?_ | refine Bk1 ?_ _)); exact BK182.out⟩, ⟨by repeat (first | (with_reducible first | exact HB.out | apply Bb1 | apply Bb2 | apply Bb3 | refine Bb4 ?_ GE182.out) | exact HB.out)⟩⟩
    case round =>
     clear H'
     try clear c1
     try clear p2
     try clear c6
     try clear c6b0
     try clear p6
     try clear hcz5_0
     try clear hcz5_1
     try clear hcz7_0
     try clear hcz7_1
     try clear hfz5_0
     try clear hfz5_1
     try clear hfz7_0
     try clear hfz7_1
     try clear p2
     obtain ⟨x3_2, x5_2, rfl, HA, HK2, HO_3, BK182, HB⟩ := hrel
     cases gk with
     | zero => exact absurd HA.out (by simp [impl_cornersAround.l1])
     | succ k2 =>
      have H := HA.out
      clear HA
      simp only [impl_cornersAround.l1] at H
      by_cases c8 : x5_2 ≤ (wrap64 (a0_0 + 1))
      ·rw [if_pos c8] at H
       have c8b0 : decide (x5_2 ≤ (wrap64 (a0_0 + 1))) = true := decide_eq_true c8
       clear c8
       by_cases c9 : (!(x5_2 == a0_0) || (!(x4_1 == a0_1))) = true
       ·rw [if_pos c9] at H
        have c9b0 : (!(x5_2 == a0_0) || (!(x4_1 == a0_1))) = true := c9
        clear c9
        by_cases c10 : x3_2.length < 8796093022208
        ·rw [if_pos c10] at H
         have LMc10 := am c10
         clear c10
         obtain ⟨y187, hy187⟩ : ∃ y_ : List (S34), y_ = (x3_2 ++ [(⟨x5_2, x4_1⟩ : S34)]) := ⟨_, rfl⟩
         replace H : (impl_cornersAround.l1 k2 y187 x4_1 (wrap64 (x5_2 + 1)) a0_0 a0_1) = some r := by first | (rw [hy187]; with_reducible exact H) | (have H2_ := (Option.bind_some _ _).symm.trans H; rw [hy187]; with_reducible exact H2_) | (have H2_ := (Option.bind_some _ _).symm.trans H; with_reducible exact H2_) | with_reducible exact H | (rw [hy187]; exact H) | exact H
         have Ny187 := am hy187
         clear hy187
         have H' := am H
         clear H
         have hcz11_0 : wr.cell? ⟨gb182, 0, none⟩ = some (.int .i64 a0_0) := (kc BK182.out 0).trans rfl
         have hcz11_1 : wr.cell? ⟨gb182, 1, none⟩ = some (.int .i64 a0_1) := (kc BK182.out 1).trans rfl
         have hfz11_0 := kf BK182.out 0
         have hfz11_1 := kf BK182.out 1
         go_wp2_with (first | ((with_reducible refine gate_dst (N := 6) rfl ?_); refine box_event ?hg (N := 6) ?hd (cs := #[.int .i64 0, .int .i64 0]) (t := 34) ?hr ?_; (case hd => rfl); (case hg => rfl); (case hr => first | (go_simp; done) | (go_simp; rfl)); intro gb186 hg w12 hbox hb; have n0_ := am (Kd.R_below (Kd.R_elderB (by (with_reducible repeat (first | apply Kd.R_alloc | apply Kd.R_drewN | apply Kd.R_drew)); exact HO_3.out) gb186 (Nat.le_of_eq hg.symm)) hb); have n1_ := am (Bk4 (g := gb182) (o := .cells #[.int .i64 a0_0, .int .i64 a0_1] 34 (0, 0)) (by (with_reducible repeat (first | refine Bk2 ?_ _ | refine Bk3 ?_ | refine Bk1 ?_ _)); exact BK182.out) hb); have n2_ := am (Bb6 (by repeat (first | (with_reducible first | exact HB.out | apply Bb1 | apply Bb2 | apply Bb3 | refine Bb4 ?_ GE182.out) | exact HB.out)) hb); have n3_ := am (hbox); have n4_ := am ((by rw [hg]; exact (Bb5 (by repeat (first | (with_reducible first | exact HB.out | apply Bb1 | apply Bb2 | apply Bb3 | refine Bb4 ?_ GE182.out) | exact HB.out))) : w.heap.size ≤ gb186)); have n5_ := n4_; have n6_ := am ((by rw [hg]; exact nl (Bk5 (g := gb182) (o := .cells #[.int .i64 a0_0, .int .i64 a0_1] 34 (0, 0)) (by (with_reducible repeat (first | refine Bk2 ?_ _ | refine Bk3 ?_ | refine Bk1 ?_ _)); exact BK182.out)) : gb182 ≠ gb186)); have n7_ := am ((by rw [hg]; exact ng (Bk5 (g := gb182) (o := .cells #[.int .i64 a0_0, .int .i64 a0_1] 34 (0, 0)) (by (with_reducible repeat (first | refine Bk2 ?_ _ | refine Bk3 ?_ | refine Bk1 ?_ _)); exact BK182.out)) : gb186 ≠ gb182)); clear HO_3; clear BK182; clear HB; have HO_3 := n0_; have BK182 := n1_; have HB := n2_; have BK186 := n3_; have GW186 := n4_; have GE186 := n5_; have NB182_186 := n6_; have NB186_182 := n7_; clear n0_ n1_ n2_ n3_ n4_ n5_ n6_ n7_; clear hb hbox hg; have hnb13 := NB186_182.out; have hnc13 := NB182_186.out; have hcz14_0 : w12.cell? ⟨gb186, 0, none⟩ = some (.int .i64 0) := (kc BK186.out 0).trans rfl; have hcz14_1 : w12.cell? ⟨gb186, 1, none⟩ = some (.int .i64 0) := (kc BK186.out 1).trans rfl; have hfz14_0 := kf BK186.out 0; have hfz14_1 := kf BK186.out 1; have hcz15_0 : w12.cell? ⟨gb182, 0, none⟩ = some (.int .i64 a0_0) := (kc BK182.out 0).trans rfl; have hcz15_1 : w12.cell? ⟨gb182, 1, none⟩ = some (.int .i64 a0_1) := (kc BK182.out 1).trans rfl; have hfz15_0 := kf BK182.out 0; have hfz15_1 := kf BK182.out 1) | ((with_reducible refine gate_builtin (b := .append) (xs := #[.tmp 34, .tmp 36]) rfl ?_); at_builtin; refine Kd.R_append k34 (w0 := w) w.heap.size rfl (.tmp 34) (.tmp 36) 24 34 (.agg #[(.int .i64 0), (.int .i64 0)]) 16 rfl Try.underlying24 info34 rfl (by decide) (by omega) u3 x3_2 (⟨x5_2, x4_1⟩ : S34) [.int .i64 x5_2, .int .i64 x4_1] (fun k_ => k_ ≠ gb182 ∧ k_ ≠ gb186) (fun _ => False) rfl (by first | (go_simp; done) | (go_simp; rfl)) ?aP (fun _ hk => hk.elim) ?aF ?aO ?aB ?aS ?aL ?_; (case aP => exact k34_mkM _ _ _ (⟨x5_2, x4_1⟩ : S34)); (case aB => exact (by repeat (first | (with_reducible first | exact HB.out | apply Bb1 | apply Bb2 | apply Bb3 | refine Bb4 ?_ GE182.out | refine Bb4 ?_ GE186.out) | exact HB.out))); (case aF => exact (fun k_ hk => ⟨Kd.freshB (g := gb182) (o := .cells #[.int .i64 a0_0, .int .i64 a0_1] 34 (0, 0)) (by (with_reducible repeat (first | refine Bk2 ?_ _ | refine Bk3 ?_ | refine Bk1 ?_ _)); refine blk_far ?_ NB182_186.out _; (with_reducible repeat (first | refine Bk2 ?_ _ | refine Bk3 ?_ | refine Bk1 ?_ _)); refine blk_far ?_ NB182_186.out _; (with_reducible repeat (first | refine Bk2 ?_ _ | refine Bk3 ?_ | refine Bk1 ?_ _)); exact BK182.out) k_ hk, Kd.freshB (g := gb186) (o := .cells #[.int .i64 x5_2, .int .i64 x4_1] 34 (0, 0)) (by (with_reducible repeat (first | refine Bk2 ?_ _ | refine Bk3 ?_ | refine Bk1 ?_ _)); refine blk_put (cs := #[.int .i64 x5_2, .int .i64 0]) ?_ 1 _ rfl; (with_reducible repeat (first | refine Bk2 ?_ _ | refine Bk3 ?_ | refine Bk1 ?_ _)); refine blk_put (cs := #[.int .i64 0, .int .i64 0]) ?_ 0 _ rfl; (with_reducible repeat (first | refine Bk2 ?_ _ | refine Bk3 ?_ | refine Bk1 ?_ _)); exact BK186.out) k_ hk⟩)); (case aO => exact (by (with_reducible repeat (first | apply Kd.R_alloc | apply Kd.R_drewN | apply Kd.R_drew)); exact Kd.R_mono (Kd.R_far (p := ⟨gb186, 1, none⟩) (Kd.R_far (p := ⟨gb186, 0, none⟩) (Kd.R_mono HO_3.out (fun k_ hk => (⟨hk, hk.2⟩ : _ ∧ k_ ≠ gb186))) (fun _ hk => hk.2) (.int .i64 x5_2)) (fun _ hk => hk.2) (.int .i64 x4_1)) (fun _ hk => ⟨hk.1.1, hk.1.2⟩))); (case aS => exact (Bb5 (by repeat (first | (with_reducible first | exact HB.out | apply Bb1 | apply Bb2 | apply Bb3 | refine Bb4 ?_ GE182.out | refine Bb4 ?_ GE186.out) | exact HB.out)))); (case aL => have := LMc10.out; omega); intro v188 w16 ho hb hg hat; rw [← Ny187.out] at ho; have n0_ := am (blk_grown (g := gb182) (o := .cells #[.int .i64 a0_0, .int .i64 a0_1] 34 (0, 0)) (by (with_reducible repeat (first | refine Bk2 ?_ _ | refine Bk3 ?_ | refine Bk1 ?_ _)); refine blk_far ?_ NB182_186.out _; (with_reducible repeat (first | refine Bk2 ?_ _ | refine Bk3 ?_ | refine Bk1 ?_ _)); refine blk_far ?_ NB182_186.out _; (with_reducible repeat (first | refine Bk2 ?_ _ | refine Bk3 ?_ | refine Bk1 ?_ _)); exact BK182.out) hg (Kd.R_away HO_3.out (fun _ hk => hk.1))); have n1_ := am (blk_grown (g := gb186) (o := .cells #[.int .i64 x5_2, .int .i64 x4_1] 34 (0, 0)) (by (with_reducible repeat (first | refine Bk2 ?_ _ | refine Bk3 ?_ | refine Bk1 ?_ _)); refine blk_put (cs := #[.int .i64 x5_2, .int .i64 0]) ?_ 1 _ rfl; (with_reducible repeat (first | refine Bk2 ?_ _ | refine Bk3 ?_ | refine Bk1 ?_ _)); refine blk_put (cs := #[.int .i64 0, .int .i64 0]) ?_ 0 _ rfl; (with_reducible repeat (first | refine Bk2 ?_ _ | refine Bk3 ?_ | refine Bk1 ?_ _)); exact BK186.out) hg (Kd.R_away HO_3.out (fun _ hk => hk.2))); have n2_ := am (hb); have n3_ := am (ho); clear BK182; clear BK186; clear HB; clear HO_3; have BK182 := n0_; have BK186 := n1_; have HB := n2_; have HO189 := n3_; clear n0_ n1_ n2_ n3_; clear ho hb hg hat))
         go_roundg k2
         case measure => have := HK1.out; have := HK2.out; omega
         case rel => exact ⟨(y187), (wrap64 (x5_2 + 1)), (by first | rfl | (simp; done) | (simp [*]; done)), H', ⟨by have := HK1.out; have := HK2.out; omega⟩, ⟨by (with_reducible repeat (first | apply Kd.R_alloc | apply Kd.R_drewN | apply Kd.R_drew)); exact Kd.R_mono HO189.out (fun _ hk => hk.1)⟩, ⟨by (with_reducible repeat (first | refine Bk2 ?_ _ | refine Bk3 ?_ | refine Bk1 ?_ _)); exact BK182.out⟩, ⟨by repeat (first | (with_reducible first | exact HB.out | apply Bb1 | apply Bb2 | apply Bb3 | refine Bb4 ?_ GE182.out | refine Bb4 ?_ GE186.out) | exact HB.out)⟩⟩
        ·rw [if_neg c10] at H
         exact absurd H (by simp)
       ·rw [if_neg c9] at H
        have c9b0 : (!(x5_2 == a0_0) || (!(x4_1 == a0_1))) = false := by simpa using c9
        clear c9
        have H' := am H
        clear H
        have hcz17_0 : wr.cell? ⟨gb182, 0, none⟩ = some (.int .i64 a0_0) := (kc BK182.out 0).trans rfl
        have hcz17_1 : wr.cell? ⟨gb182, 1, none⟩ = some (.int .i64 a0_1) := (kc BK182.out 1).trans rfl
        have hfz17_0 := kf BK182.out 0
        have hfz17_1 := kf BK182.out 1
        go_wp2_with (first | ((with_reducible refine gate_dst (N := 6) rfl ?_); refine box_event ?hg (N := 6) ?hd (cs := #[.int .i64 0, .int .i64 0]) (t := 34) ?hr ?_; (case hd => rfl); (case hg => rfl); (case hr => first | (go_simp; done) | (go_simp; rfl)); intro gb186 hg w18 hbox hb; have n0_ := am (Kd.R_below (Kd.R_elderB (by (with_reducible repeat (first | apply Kd.R_alloc | apply Kd.R_drewN | apply Kd.R_drew)); exact HO_3.out) gb186 (Nat.le_of_eq hg.symm)) hb); have n1_ := am (Bk4 (g := gb182) (o := .cells #[.int .i64 a0_0, .int .i64 a0_1] 34 (0, 0)) (by (with_reducible repeat (first | refine Bk2 ?_ _ | refine Bk3 ?_ | refine Bk1 ?_ _)); exact BK182.out) hb); have n2_ := am (Bb6 (by repeat (first | (with_reducible first | exact HB.out | apply Bb1 | apply Bb2 | apply Bb3 | refine Bb4 ?_ GE182.out) | exact HB.out)) hb); have n3_ := am (hbox); have n4_ := am ((by rw [hg]; exact (Bb5 (by repeat (first | (with_reducible first | exact HB.out | apply Bb1 | apply Bb2 | apply Bb3 | refine Bb4 ?_ GE182.out) | exact HB.out))) : w.heap.size ≤ gb186)); have n5_ := n4_; have n6_ := am ((by rw [hg]; exact nl (Bk5 (g := gb182) (o := .cells #[.int .i64 a0_0, .int .i64 a0_1] 34 (0, 0)) (by (with_reducible repeat (first | refine Bk2 ?_ _ | refine Bk3 ?_ | refine Bk1 ?_ _)); exact BK182.out)) : gb182 ≠ gb186)); have n7_ := am ((by rw [hg]; exact ng (Bk5 (g := gb182) (o := .cells #[.int .i64 a0_0, .int .i64 a0_1] 34 (0, 0)) (by (with_reducible repeat (first | refine Bk2 ?_ _ | refine Bk3 ?_ | refine Bk1 ?_ _)); exact BK182.out)) : gb186 ≠ gb182)); clear HO_3; clear BK182; clear HB; have HO_3 := n0_; have BK182 := n1_; have HB := n2_; have BK186 := n3_; have GW186 := n4_; have GE186 := n5_; have NB182_186 := n6_; have NB186_182 := n7_; clear n0_ n1_ n2_ n3_ n4_ n5_ n6_ n7_; clear hb hbox hg; have hnb19 := NB186_182.out; have hnc19 := NB182_186.out; have hcz20_0 : w18.cell? ⟨gb186, 0, none⟩ = some (.int .i64 0) := (kc BK186.out 0).trans rfl; have hcz20_1 : w18.cell? ⟨gb186, 1, none⟩ = some (.int .i64 0) := (kc BK186.out 1).trans rfl; have hfz20_0 := kf BK186.out 0; have hfz20_1 := kf BK186.out 1; have hcz21_0 : w18.cell? ⟨gb182, 0, none⟩ = some (.int .i64 a0_0) := (kc BK182.out 0).trans rfl; have hcz21_1 : w18.cell? ⟨gb182, 1, none⟩ = some (.int .i64 a0_1) := (kc BK182.out 1).trans rfl; have hfz21_0 := kf BK182.out 0; have hfz21_1 := kf BK182.out 1))
        go_roundg k2
        case measure => have := HK1.out; have := HK2.out; omega
        case rel => exact ⟨(x3_2), (wrap64 (x5_2 + 1)), (by first | rfl | (simp; done) | (simp [*]; done)), H', ⟨by have := HK1.out; have := HK2.out; omega⟩, ⟨by (with_reducible repeat (first | apply Kd.R_alloc | apply Kd.R_drewN | apply Kd.R_drew)); exact Kd.R_mono (Kd.R_far (p := ⟨gb186, 1, none⟩) (Kd.R_far (p := ⟨gb186, 0, none⟩) (Kd.R_mono HO_3.out (fun k_ hk => (⟨hk, hk.2⟩ : _ ∧ k_ ≠ gb186))) (fun _ hk => hk.2) (.int .i64 x5_2)) (fun _ hk => hk.2) (.int .i64 x4_1)) (fun _ hk => hk.1.1)⟩, ⟨by (with_reducible repeat (first | refine Bk2 ?_ _ | refine Bk3 ?_ | refine Bk1 ?_ _)); refine blk_far ?_ NB182_186.out _; (with_reducible repeat (first | refine Bk2 ?_ _ | refine Bk3 ?_ | refine Bk1 ?_ _)); refine blk_far ?_ NB182_186.out _; (with_reducible repeat (first | refine Bk2 ?_ _ | refine Bk3 ?_ | refine Bk1 ?_ _)); exact BK182.out⟩, ⟨by repeat (first | (with_reducible first | exact HB.out | apply Bb1 | apply Bb2 | apply Bb3 | refine Bb4 ?_ GE182.out | refine Bb4 ?_ GE186.out) | exact HB.out)⟩⟩
      ·rw [if_neg c8] at H
       have c8b0 : decide (x5_2 ≤ (wrap64 (a0_0 + 1))) = false := decide_eq_false c8
       clear c8
       have H' := am H
       clear H
       have hcz22_0 : wr.cell? ⟨gb182, 0, none⟩ = some (.int .i64 a0_0) := (kc BK182.out 0).trans rfl
       have hcz22_1 : wr.cell? ⟨gb182, 1, none⟩ = some (.int .i64 a0_1) := (kc BK182.out 1).trans rfl
       have hfz22_0 := kf BK182.out 0
       have hfz22_1 := kf BK182.out 1
       go_wp2
       go_roundg k2
       case measure => have := HK1.out; have := HK2.out; omega
       case rel => exact ⟨(x3_2), (wrap64 (x4_1 + 1)), (by first | rfl | (simp; done) | (simp [*]; done)), H', ⟨by have := HK1.out; have := HK2.out; omega⟩, ⟨by (with_reducible repeat (first | apply Kd.R_alloc | apply Kd.R_drewN | apply Kd.R_drew)); exact HO_3.out⟩, ⟨by (with_reducible repeat (first | refine Bk2 ?_ _ | refine Bk3 ?_ | refine Bk1 ?_ _)); exact BK182.out⟩, ⟨by repeat (first | (with_reducible first | exact HB.out | apply Bb1 | apply Bb2 | apply Bb3 | refine Bb4 ?_ GE182.out) | exact HB.out)⟩⟩
   ·rw [if_neg c6] at H
    have c6b0 : decide (x4_1 ≤ (wrap64 (a0_1 + 1))) = false := decide_eq_false c6
    clear c6
    obtain rfl := oi H
    have hcz23_0 : wr.cell? ⟨gb182, 0, none⟩ = some (.int .i64 a0_0) := (kc BK182.out 0).trans rfl
    have hcz23_1 : wr.cell? ⟨gb182, 1, none⟩ = some (.int .i64 a0_1) := (kc BK182.out 1).trans rfl
    have hfz23_0 := kf BK182.out 0
    have hfz23_1 := kf BK182.out 1
    go_wp2
    go_ret
    exact ⟨_, by first | rfl | (simp [errW_none, errW_some] <;> rfl) | (simp [*, errW_none, errW_some] <;> rfl), by (with_reducible repeat (first | apply Kd.R_alloc | apply Kd.R_drewN | apply Kd.R_drew)); exact Kd.R_mono HO_3.out (fun _ hk => trivial), by repeat (first | (with_reducible first | exact HB.out | apply Bb1 | apply Bb2 | apply Bb3 | refine Bb4 ?_ GE182.out) | exact HB.out)⟩

end Go.Proofs.Ytlnhjaokcgcdpaa.Q
