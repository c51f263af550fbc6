/- Written by a program of this session (wip/tools/pp.py) out of the translation, with the kit's printer. -/
import Derived.Test.YtjgnlakgojookaaQ0
import Derived.Test.YtjgnlakgojookaaQ1
namespace Go.Proofs.Ytjgnlakgojookaa.Q
open Go.RowKit Go.Proofs.YtjgnlakgojookaaW.PrintWords Go.Proofs.YtjgnlakgojookaaW.PrintLast Go.Proofs.YtjgnlakgojookaaW.PrintMore
attribute [local go_sem] max2_int min2_int max_two min_two max_three min_three max_four min_four
set_option linter.unusedVariables false
set_option linter.unusedSimpArgs false

attribute [local go_sem high] eqA71
/-! ### spec_l09Add: function 91 -/
def spec_l09Add.f (a0_0 : Int) (a0_1 : Int) (a0_2 : Int) (a1_0 : Int) (a1_1 : Int) (a1_2 : Int) : Option (Int × Int × Int) := some (wrap64 (a0_0 + a1_0), wrap64 (a0_1 + a1_1), wrap64 (a0_2 + a1_2))
set_option maxHeartbeats 8000000 in
set_option maxRecDepth 100000 in
theorem spec_l09Add.calls (a0_0 : Int) (a0_1 : Int) (a0_2 : Int) (a1_0 : Int) (a1_1 : Int) (a1_2 : Int) (r1 : Int) (r2 : Int) (r3 : Int) (w : World) (h : spec_l09Add.f a0_0 a0_1 a0_2 a1_0 a1_1 a1_2 = some (r1, r2, r3)) :
  Calls Try.prog 91 #[.agg #[.int .i64 a0_0, .int .i64 a0_1, .int .i64 a0_2], .agg #[.int .i64 a1_0, .int .i64 a1_1, .int .i64 a1_2]] w fun e w' => e = .returned (.agg #[.int .i64 r1, .int .i64 r2, .int .i64 r3]) ∧ Below w.heap.size w w' := by
 have hu71 := Try.underlying71
 have HB := am (Below.refl w.heap.size w)
 have H : (some (wrap64 (a0_0 + a1_0), wrap64 (a0_1 + a1_1), wrap64 (a0_2 + a1_2))) = some (r1, r2, r3) := h
 clear h
 simp only [Option.some.injEq, Prod.mk.injEq] at H
 obtain ⟨rfl, rfl, rfl⟩ := H
 go_enter Try.func91, Try.ntmps91
 go_wp2_with (first | ((with_reducible refine gate_dst (N := 2) rfl ?_); refine box_event ?hg (N := 2) ?hd (cs := #[.int .i64 a0_0, .int .i64 a0_1, .int .i64 a0_2]) (t := 71) ?hr ?_; (case hd => rfl); (case hg => rfl); (case hr => first | (go_simp; done) | (go_simp; rfl)); intro gb119 hg w3 hbox hb; have n0_ := am (Bb6 zB hb); have n1_ := am (hbox); have n2_ := am ((by rw [hg]; exact (Bb5 zB) : w.heap.size ≤ gb119)); have n3_ := n2_; clear HB; have HB := n0_; have BK119 := n1_; have GW119 := n2_; have GE119 := n3_; clear n0_ n1_ n2_ n3_; clear hb hbox hg) | ((with_reducible refine gate_dst (N := 3) rfl ?_); refine box_event ?hg (N := 3) ?hd (cs := #[.int .i64 a1_0, .int .i64 a1_1, .int .i64 a1_2]) (t := 71) ?hr ?_; (case hd => rfl); (case hg => rfl); (case hr => first | (go_simp; done) | (go_simp; rfl)); intro gb120 hg w4 hbox hb; have n0_ := am (Bk4 (g := gb119) (o := .cells #[.int .i64 a0_0, .int .i64 a0_1, .int .i64 a0_2] 71 (0, 0)) (zK BK119) hb); have n1_ := am (Bb6 (by repeat (first | (with_reducible first | exact HB.out | apply Bb1 | apply Bb2 | apply Bb3 | refine Bb4 ?_ GE119.out) | exact HB.out)) hb); have n2_ := am (hbox); have n3_ := am ((by rw [hg]; exact (Bb5 (by repeat (first | (with_reducible first | exact HB.out | apply Bb1 | apply Bb2 | apply Bb3 | refine Bb4 ?_ GE119.out) | exact HB.out))) : w.heap.size ≤ gb120)); have n4_ := n3_; have n5_ := am ((by rw [hg]; exact nl (Bk5 (g := gb119) (o := .cells #[.int .i64 a0_0, .int .i64 a0_1, .int .i64 a0_2] 71 (0, 0)) (zK BK119)) : gb119 ≠ gb120)); have n6_ := am ((by rw [hg]; exact ng (Bk5 (g := gb119) (o := .cells #[.int .i64 a0_0, .int .i64 a0_1, .int .i64 a0_2] 71 (0, 0)) (zK BK119)) : gb120 ≠ gb119)); clear BK119; clear HB; have BK119 := n0_; have HB := n1_; have BK120 := n2_; have GW120 := n3_; have GE120 := n4_; have NB119_120 := n5_; have NB120_119 := n6_; clear n0_ n1_ n2_ n3_ n4_ n5_ n6_; clear hb hbox hg) | ((with_reducible refine gate_dst (N := 4) rfl ?_); refine box_event ?hg (N := 4) ?hd (cs := #[.int .i64 0, .int .i64 0, .int .i64 0]) (t := 71) ?hr ?_; (case hd => rfl); (case hg => rfl); (case hr => first | (go_simp; done) | (go_simp; rfl)); intro gb121 hg w5 hbox hb; have n0_ := am (Bk4 (g := gb119) (o := .cells #[.int .i64 a0_0, .int .i64 a0_1, .int .i64 a0_2] 71 (0, 0)) (zK BK119) hb); have n1_ := am (Bk4 (g := gb120) (o := .cells #[.int .i64 a1_0, .int .i64 a1_1, .int .i64 a1_2] 71 (0, 0)) (zK BK120) hb); have n2_ := am (Bb6 (by repeat (first | (with_reducible first | exact HB.out | apply Bb1 | apply Bb2 | apply Bb3 | refine Bb4 ?_ GE119.out | refine Bb4 ?_ GE120.out) | exact HB.out)) hb); have n3_ := am (hbox); have n4_ := am ((by rw [hg]; exact (Bb5 (by repeat (first | (with_reducible first | exact HB.out | apply Bb1 | apply Bb2 | apply Bb3 | refine Bb4 ?_ GE119.out | refine Bb4 ?_ GE120.out) | exact HB.out))) : w.heap.size ≤ gb121)); have n5_ := n4_; have n6_ := am ((by rw [hg]; exact nl (Bk5 (g := gb119) (o := .cells #[.int .i64 a0_0, .int .i64 a0_1, .int .i64 a0_2] 71 (0, 0)) (zK BK119)) : gb119 ≠ gb121)); have n7_ := am ((by rw [hg]; exact ng (Bk5 (g := gb119) (o := .cells #[.int .i64 a0_0, .int .i64 a0_1, .int .i64 a0_2] 71 (0, 0)) (zK BK119)) : gb121 ≠ gb119)); have n8_ := am ((by rw [hg]; exact nl (Bk5 (g := gb120) (o := .cells #[.int .i64 a1_0, .int .i64 a1_1, .int .i64 a1_2] 71 (0, 0)) (zK BK120)) : gb120 ≠ gb121)); have n9_ := am ((by rw [hg]; exact ng (Bk5 (g := gb120) (o := .cells #[.int .i64 a1_0, .int .i64 a1_1, .int .i64 a1_2] 71 (0, 0)) (zK BK120)) : gb121 ≠ gb120)); clear BK119; clear BK120; clear HB; have BK119 := n0_; have BK120 := n1_; have HB := n2_; have BK121 := n3_; have GW121 := n4_; have GE121 := n5_; have NB119_121 := n6_; have NB121_119 := n7_; have NB120_121 := n8_; have NB121_120 := n9_; clear n0_ n1_ n2_ n3_ n4_ n5_ n6_ n7_ n8_ n9_; clear hb hbox hg; have hnb6 := NB119_120.out; have hnc6 := NB120_119.out; have hnb7 := NB119_121.out; have hnc7 := NB121_119.out; have hcz8_0 : w5.cell? ⟨gb119, 0, none⟩ = some (.int .i64 a0_0) := (kc BK119.out 0).trans rfl; have hcz8_1 : w5.cell? ⟨gb119, 1, none⟩ = some (.int .i64 a0_1) := (kc BK119.out 1).trans rfl; have hcz8_2 : w5.cell? ⟨gb119, 2, none⟩ = some (.int .i64 a0_2) := (kc BK119.out 2).trans rfl; have hfz8_0 := kf BK119.out 0; have hfz8_1 := kf BK119.out 1; have hfz8_2 := kf BK119.out 2; have hnb9 := NB120_121.out; have hnc9 := NB121_120.out; have hcz10_0 : w5.cell? ⟨gb120, 0, none⟩ = some (.int .i64 a1_0) := (kc BK120.out 0).trans rfl; have hcz10_1 : w5.cell? ⟨gb120, 1, none⟩ = some (.int .i64 a1_1) := (kc BK120.out 1).trans rfl; have hcz10_2 : w5.cell? ⟨gb120, 2, none⟩ = some (.int .i64 a1_2) := (kc BK120.out 2).trans rfl; have hfz10_0 := kf BK120.out 0; have hfz10_1 := kf BK120.out 1; have hfz10_2 := kf BK120.out 2; have hcz11_0 : w5.cell? ⟨gb121, 0, none⟩ = some (.int .i64 0) := (kc BK121.out 0).trans rfl; have hcz11_1 : w5.cell? ⟨gb121, 1, none⟩ = some (.int .i64 0) := (kc BK121.out 1).trans rfl; have hcz11_2 : w5.cell? ⟨gb121, 2, none⟩ = some (.int .i64 0) := (kc BK121.out 2).trans rfl; have hfz11_0 := kf BK121.out 0; have hfz11_1 := kf BK121.out 1; have hfz11_2 := kf BK121.out 2))
 refine bodyPost_ret (results_cell_row rfl _ _ gb121 71 #[.int .i64 (wrap64 (a0_0 + a1_0)), .int .i64 (wrap64 (a0_1 + a1_1)), .int .i64 (wrap64 (a0_2 + a1_2))] (0, 0) _ rfl (by (with_reducible repeat (first | refine Bk2 ?_ _ | refine Bk3 ?_ | refine Bk1 ?_ _)); refine blk_put (cs := #[.int .i64 (wrap64 (a0_0 + a1_0)), .int .i64 (wrap64 (a0_1 + a1_1)), .int .i64 0]) ?_ 2 _ rfl; (with_reducible repeat (first | refine Bk2 ?_ _ | refine Bk3 ?_ | refine Bk1 ?_ _)); refine blk_put (cs := #[.int .i64 (wrap64 (a0_0 + a1_0)), .int .i64 0, .int .i64 0]) ?_ 1 _ rfl; (with_reducible repeat (first | refine Bk2 ?_ _ | refine Bk3 ?_ | refine Bk1 ?_ _)); refine blk_put (cs := #[.int .i64 0, .int .i64 0, .int .i64 0]) ?_ 0 _ rfl; (with_reducible repeat (first | refine Bk2 ?_ _ | refine Bk3 ?_ | refine Bk1 ?_ _)); exact BK121.out) Try.underlying71 rfl (by kernel_rfl)) rfl ?_
 exact ⟨zE, by repeat (first | (with_reducible first | exact HB.out | apply Bb1 | apply Bb2 | apply Bb3 | refine Bb4 ?_ GE119.out | refine Bb4 ?_ GE120.out | refine Bb4 ?_ GE121.out) | exact HB.out)⟩

/-! ### spec_l09Steps: function 92 -/
def spec_l09Steps.f  : Option ((List (S71))) := some (([(⟨0, 0, (-1)⟩ : S71), (⟨0, (-1), 0⟩ : S71), (⟨(-1), 0, 0⟩ : S71), (⟨1, 0, 0⟩ : S71), (⟨0, 1, 0⟩ : S71), (⟨0, 0, 1⟩ : S71)] : List (S71)))
set_option maxHeartbeats 8000000 in
set_option maxRecDepth 100000 in
theorem spec_l09Steps.calls  (r : List (S71)) (w : World) (h : spec_l09Steps.f  = some r) :
  Calls Try.prog 92 #[] w fun e w' => ∃ v0_ : Value, e = .returned (v0_) ∧ Kd.R k71 71 w' w.heap.size (fun _ => True) v0_ r ∧ Below w.heap.size w w' := by
 have hu71 := Try.underlying71
 have HB := am (Below.refl w.heap.size w)
 have H : (some (([(⟨0, 0, (-1)⟩ : S71), (⟨0, (-1), 0⟩ : S71), (⟨(-1), 0, 0⟩ : S71), (⟨1, 0, 0⟩ : S71), (⟨0, 1, 0⟩ : S71), (⟨0, 0, 1⟩ : S71)] : List (S71)))) = some r := h
 clear h
 obtain ⟨y122, hy122⟩ : ∃ y_ : List (S71), y_ = (([(⟨0, 0, (-1)⟩ : S71), (⟨0, (-1), 0⟩ : S71), (⟨(-1), 0, 0⟩ : S71), (⟨1, 0, 0⟩ : S71), (⟨0, 1, 0⟩ : S71), (⟨0, 0, 1⟩ : S71)] : List (S71))) := ⟨_, rfl⟩
 replace H : (some y122) = some r := by first | (rw [hy122]; with_reducible exact H) | (have H2_ := (Option.bind_some _ _).symm.trans H; rw [hy122]; with_reducible exact H2_) | (have H2_ := (Option.bind_some _ _).symm.trans H; with_reducible exact H2_) | with_reducible exact H | (rw [hy122]; exact H) | exact H
 have Ny122 := am hy122
 clear hy122
 obtain rfl := oi H
 go_enter Try.func92, Try.ntmps92
 go_wp2_with (first | ((with_reducible refine gate_dst (N := 7) rfl ?_); refine Kd.R_lit k71 _ 71 ?hg (N := 7) ?hd (xs := ([(⟨0, 0, (-1)⟩ : S71), (⟨0, (-1), 0⟩ : S71), (⟨(-1), 0, 0⟩ : S71), (⟨1, 0, 0⟩ : S71), (⟨0, 1, 0⟩ : S71), (⟨0, 0, 1⟩ : S71)] : List (S71))) (inner := [.int .i64 0, .int .i64 0, .int .i64 (-1), .int .i64 0, .int .i64 (-1), .int .i64 0, .int .i64 (-1), .int .i64 0, .int .i64 0, .int .i64 1, .int .i64 0, .int .i64 0, .int .i64 0, .int .i64 1, .int .i64 0, .int .i64 0, .int .i64 0, .int .i64 1]) (ok := fun _ => True) (okp := fun _ => True) ?hr ?hp (fun _ hk => hk) trivial (Below.refl _ _) (Nat.le_refl _) (by simp) ?_; (case hd => rfl); (case hg => rfl); (case hr => first | (go_simp; done) | (go_simp; rfl)); (case hp => exact (Reps.c3 (show Kd.M k71 _ _ _ (⟨0, 0, (-1)⟩ : S71) [.int .i64 0, .int .i64 0, .int .i64 (-1)] from (k71_mkM _ _ _ (⟨0, 0, (-1)⟩ : S71) )) (Reps.c3 (show Kd.M k71 _ _ _ (⟨0, (-1), 0⟩ : S71) [.int .i64 0, .int .i64 (-1), .int .i64 0] from (k71_mkM _ _ _ (⟨0, (-1), 0⟩ : S71) )) (Reps.c3 (show Kd.M k71 _ _ _ (⟨(-1), 0, 0⟩ : S71) [.int .i64 (-1), .int .i64 0, .int .i64 0] from (k71_mkM _ _ _ (⟨(-1), 0, 0⟩ : S71) )) (Reps.c3 (show Kd.M k71 _ _ _ (⟨1, 0, 0⟩ : S71) [.int .i64 1, .int .i64 0, .int .i64 0] from (k71_mkM _ _ _ (⟨1, 0, 0⟩ : S71) )) (Reps.c3 (show Kd.M k71 _ _ _ (⟨0, 1, 0⟩ : S71) [.int .i64 0, .int .i64 1, .int .i64 0] from (k71_mkM _ _ _ (⟨0, 1, 0⟩ : S71) )) (Reps.c3 (show Kd.M k71 _ _ _ (⟨0, 0, 1⟩ : S71) [.int .i64 0, .int .i64 0, .int .i64 1] from (k71_mkM _ _ _ (⟨0, 0, 1⟩ : S71) )) (Reps.none _ _)))))))); intro v123 w1 ho2 hb hg_ hnew_; clear hg_ hnew_; (first | rw [← Ny122.out] at ho2 | (simp only [Int.reduceToNat] at ho2; rw [← Ny122.out] at ho2)); have n0_ := am (Kd.R_lower ho2 (Bb5 zB)); have n1_ := am (Bb6 zB hb); clear HB; have HO124 := n0_; have HB := n1_; clear n0_ n1_; clear hb ho2))
 go_ret
 exact ⟨_, zE, by (with_reducible repeat (first | apply Kd.R_alloc | apply Kd.R_drewN | apply Kd.R_drew)); exact HO124.out, zB⟩

/-! ### spec_l09Index: function 93 -/
def spec_l09Index.l0 : Nat → List (S71) → Int → Int → Int → Int → Option (Int)
 | 0, _, _, _, _, _ => none
 | k + 1, x0, x5, x126000, x126001, x126002 => if x5 < (x0.length : Int) then (if 0 ≤ x5 then (if (((rd_T71 x0 x5).f0) == x126000 && (((rd_T71 x0 x5).f1) == x126001 && (((rd_T71 x0 x5).f2) == x126002))) = true then (some x5) else (spec_l09Index.l0 k x0 (wrap64 (x5 + 1)) x126000 x126001 x126002)) else (none)) else (some (-1))
def spec_l09Index.f (k : Nat) (l0 : List (S71)) (a1_0 : Int) (a1_1 : Int) (a1_2 : Int) : Option (Int) := spec_l09Index.l0 k l0 0 a1_0 a1_1 a1_2
theorem spec_l09Index.mono_l : ∀ k, (∀ y0 y1 y2 y3 y4, LeO (spec_l09Index.l0 k y0 y1 y2 y3 y4) (spec_l09Index.l0 (k + 1) y0 y1 y2 y3 y4))
 | 0 => fun _ _ _ _ _ r h => by simp [spec_l09Index.l0] at h
 | k + 1 => by
  have ih0 := spec_l09Index.mono_l k
  ·intro y0 y1 y2 y3 y4
   unfold spec_l09Index.l0
   repeat' first
   | (with_reducible exact ih0 _ _ _ _ _)
   | (with_reducible exact LeO.refl _)
   | (with_reducible exact LeO.none _)
   | (with_reducible refine LeO.ite ?_ ?_)
   | (with_reducible refine LeO.bind ?_ (fun _ => ?_))
   | exact ih0 _ _ _ _ _
   | exact LeO.none _
   | refine LeO.ite ?_ ?_
   | refine LeO.bind ?_ (fun _ => ?_)
theorem spec_l09Index.mono : ∀ a0 a1 a2 a3 k, LeO (spec_l09Index.f k a0 a1 a2 a3) (spec_l09Index.f (k + 1) a0 a1 a2 a3) := by
 intro a0 a1 a2 a3 k
 have ih0 := spec_l09Index.mono_l k
 unfold spec_l09Index.f
 repeat' first
   | (with_reducible exact ih0 _ _ _ _ _)
   | (with_reducible exact LeO.refl _)
   | (with_reducible exact LeO.none _)
   | (with_reducible refine LeO.ite ?_ ?_)
   | (with_reducible refine LeO.bind ?_ (fun _ => ?_))
   | exact ih0 _ _ _ _ _
   | exact LeO.none _
   | refine LeO.ite ?_ ?_
   | refine LeO.bind ?_ (fun _ => ?_)
set_option maxHeartbeats 8000000 in
set_option maxRecDepth 100000 in
theorem spec_l09Index.calls (k : Nat) (A0 : Option Addr) (c0 : Nat) (l0 : List (S71)) (a1_0 : Int) (a1_1 : Int) (a1_2 : Int) (r : Int) (w : World) (hr0 : Kd.C k71 w A0 l0.length l0) (hc0 : l0.length ≤ c0) (h : spec_l09Index.f k l0 a1_0 a1_1 a1_2 = some r) :
  Calls Try.prog 93 #[.slice A0 l0.length c0, .agg #[.int .i64 a1_0, .int .i64 a1_1, .int .i64 a1_2]] w fun e w' => e = .returned (.int .i64 r) ∧ Below w.heap.size w w' := by
 have hu71 := Try.underlying71
 have HR0 := am hr0
 have HC0 := am hc0
 clear hr0 hc0
 have HB := am (Below.refl w.heap.size w)
 have H : (spec_l09Index.l0 k l0 0 a1_0 a1_1 a1_2) = some r := h
 clear h
 have H' := am H
 clear H
 go_enter Try.func93, Try.ntmps93
 go_wp2_with (first | ((with_reducible refine gate_dst (N := 3) rfl ?_); refine box_event ?hg (N := 3) ?hd (cs := #[.int .i64 a1_0, .int .i64 a1_1, .int .i64 a1_2]) (t := 71) ?hr ?_; (case hd => rfl); (case hg => rfl); (case hr => first | (go_simp; done) | (go_simp; rfl)); intro gb125 hg w3 hbox hb; have n0_ := am (Bb6 zB hb); have n1_ := am (hbox); have n2_ := am ((by rw [hg]; exact (Bb5 zB) : w.heap.size ≤ gb125)); have n3_ := n2_; clear HB; have HB := n0_; have BK125 := n1_; have GW125 := n2_; have GE125 := n3_; clear n0_ n1_ n2_ n3_; clear hb hbox hg))
 repeat (go_quiet (first | ((with_reducible refine gate_dst (N := 3) rfl ?_); refine box_event ?hg (N := 3) ?hd (cs := #[.int .i64 a1_0, .int .i64 a1_1, .int .i64 a1_2]) (t := 71) ?hr ?_; (case hd => rfl); (case hg => rfl); (case hr => first | (go_simp; done) | (go_simp; rfl)); intro gb125 hg w3 hbox hb; have n0_ := am (Bb6 zB hb); have n1_ := am (hbox); have n2_ := am ((by rw [hg]; exact (Bb5 zB) : w.heap.size ≤ gb125)); have n3_ := n2_; clear HB; have HB := n0_; have BK125 := n1_; have GW125 := n2_; have GE125 := n3_; clear n0_ n1_ n2_ n3_; clear hb hbox hg)); try go_wp2_with (first | ((with_reducible refine gate_dst (N := 3) rfl ?_); refine box_event ?hg (N := 3) ?hd (cs := #[.int .i64 a1_0, .int .i64 a1_1, .int .i64 a1_2]) (t := 71) ?hr ?_; (case hd => rfl); (case hg => rfl); (case hr => first | (go_simp; done) | (go_simp; rfl)); intro gb125 hg w3 hbox hb; have n0_ := am (Bb6 zB hb); have n1_ := am (hbox); have n2_ := am ((by rw [hg]; exact (Bb5 zB) : w.heap.size ≤ gb125)); have n3_ := n2_; clear HB; have HB := n0_; have BK125 := n1_; have GW125 := n2_; have GE125 := n3_; clear n0_ n1_ n2_ n3_; clear hb hbox hg)))
 go_loopg [5] k (fun kq v5 w' => ∃ (x5_1 : Int), v5 = .int .i64 x5_1 ∧ Aside0 (spec_l09Index.l0 kq l0 x5_1 a1_0 a1_1 a1_2 = some r) ∧ Aside0 (kq ≤ k) ∧ Aside0 (w'.heap[gb125]? = some (.cells #[.int .i64 a1_0, .int .i64 a1_1, .int .i64 a1_2] 71 (0, 0))) ∧ Aside0 (Below w.heap.size w w'))
 case atStart => exact ⟨(0), zS, H', ⟨Nat.le_refl _⟩, ⟨zK BK125⟩, ⟨by repeat (first | (with_reducible first | exact HB.out | apply Bb1 | apply Bb2 | apply Bb3 | refine Bb4 ?_ GE125.out) | exact HB.out)⟩⟩
 case round =>
  clear H'
  try clear p2
  obtain ⟨x5_1, rfl, HA, HK1, BK125, HB⟩ := hrel
  cases gk with
  | zero => exact absurd HA.out (by simp [spec_l09Index.l0])
  | succ k1 =>
   have H := HA.out
   clear HA
   simp only [spec_l09Index.l0] at H
   by_cases c4 : x5_1 < (l0.length : Int)
   rotate_left
   ·rw [if_neg c4] at H
    have c4b0 : decide (x5_1 < (l0.length : Int)) = false := decide_eq_false c4
    clear c4
    obtain rfl := oi H
    go_wp2
    repeat (go_quiet (fail); try go_wp2)
    go_ret
    exact ⟨zE, by repeat (first | (with_reducible first | exact HB.out | apply Bb1 | apply Bb2 | apply Bb3 | refine Bb4 ?_ GE125.out) | exact HB.out)⟩
   rw [if_pos c4] at H
   have c4b0 : decide (x5_1 < (l0.length : Int)) = true := decide_eq_true c4
   clear c4
   by_cases c5 : 0 ≤ x5_1
   rotate_left
   ·rw [if_neg c5] at H
    exact absurd H (by simp)
   rw [if_pos c5] at H
   have c5b0 : decide (0 ≤ x5_1) = true := decide_eq_true c5
   clear c5
   by_cases c6 : (((rd_T71 l0 x5_1).f0) == a1_0 && (((rd_T71 l0 x5_1).f1) == a1_1 && (((rd_T71 l0 x5_1).f2) == a1_2))) = true
   ·rw [if_pos c6] at H
    have c6b0 : (((rd_T71 l0 x5_1).f0) == a1_0 && (((rd_T71 l0 x5_1).f1) == a1_1 && (((rd_T71 l0 x5_1).f2) == a1_2))) = true := c6
    (try (have c6b1 : decide (((rd_T71 l0 x5_1).f0) = a1_0 && (((rd_T71 l0 x5_1).f1) == a1_1 && (((rd_T71 l0 x5_1).f2) == a1_2))) = true := by simpa using c6))
    (try (have c6b2 : (((rd_T71 l0 x5_1).f0) == a1_0 && (((rd_T71 l0 x5_1).f1) == a1_1 && (((rd_T71 l0 x5_1).f2) == a1_2))) = true := by simpa using c6))
    clear c6
    obtain rfl := oi H
    have p126 : 0 ≤ (x5_1 : Int) := zD
    have q126 : x5_1 < (l0.length : Int) := zD
    obtain ⟨ad126, e126, hx126_0, hx126_1, hx126_2⟩ := at_T71 HR0.out x5_1 p126 q126
    cases e126
    replace hx126_0 := pc HB.out hx126_0
    replace hx126_1 := pc HB.out hx126_1
    replace hx126_2 := pc HB.out hx126_2
    replace p126 := eq_true p126
    replace q126 := eq_true q126
    have hcz7_0 : wr.cell? ⟨gb125, 0, none⟩ = some (.int .i64 a1_0) := (kc BK125.out 0).trans rfl
    have hcz7_1 : wr.cell? ⟨gb125, 1, none⟩ = some (.int .i64 a1_1) := (kc BK125.out 1).trans rfl
    have hcz7_2 : wr.cell? ⟨gb125, 2, none⟩ = some (.int .i64 a1_2) := (kc BK125.out 2).trans rfl
    have hfz7_0 := kf BK125.out 0
    have hfz7_1 := kf BK125.out 1
    have hfz7_2 := kf BK125.out 2
    go_wp2
    repeat (go_quiet (fail); try go_wp2)
    go_ret
    exact ⟨zE, by repeat (first | (with_reducible first | exact HB.out | apply Bb1 | apply Bb2 | apply Bb3 | refine Bb4 ?_ GE125.out) | exact HB.out)⟩
   rw [if_neg c6] at H
   have c6b0 : (((rd_T71 l0 x5_1).f0) == a1_0 && (((rd_T71 l0 x5_1).f1) == a1_1 && (((rd_T71 l0 x5_1).f2) == a1_2))) = false := by simpa using c6
   (try (have c6b1 : decide (((rd_T71 l0 x5_1).f0) = a1_0 && (((rd_T71 l0 x5_1).f1) == a1_1 && (((rd_T71 l0 x5_1).f2) == a1_2))) = false := by simpa using c6))
   (try (have c6b2 : (((rd_T71 l0 x5_1).f0) == a1_0 && (((rd_T71 l0 x5_1).f1) == a1_1 && (((rd_T71 l0 x5_1).f2) == a1_2))) = false := by simpa using c6))
   (try (have c6b3 : ¬ (((rd_T71 l0 x5_1).f0) = a1_0 && (((rd_T71 l0 x5_1).f1) == a1_1 && (((rd_T71 l0 x5_1).f2) == a1_2))) := by simpa using c6))
   clear c6
   have H' := am H
   clear H
   have p126 : 0 ≤ (x5_1 : Int) := zD
   have q126 : x5_1 < (l0.length : Int) := zD
   obtain ⟨ad126, e126, hx126_0, hx126_1, hx126_2⟩ := at_T71 HR0.out x5_1 p126 q126
   cases e126
   replace hx126_0 := pc HB.out hx126_0
   replace hx126_1 := pc HB.out hx126_1
   replace hx126_2 := pc HB.out hx126_2
   replace p126 := eq_true p126
   replace q126 := eq_true q126
   have hcz8_0 : wr.cell? ⟨gb125, 0, none⟩ = some (.int .i64 a1_0) := (kc BK125.out 0).trans rfl
   have hcz8_1 : wr.cell? ⟨gb125, 1, none⟩ = some (.int .i64 a1_1) := (kc BK125.out 1).trans rfl
   have hcz8_2 : wr.cell? ⟨gb125, 2, none⟩ = some (.int .i64 a1_2) := (kc BK125.out 2).trans rfl
   have hfz8_0 := kf BK125.out 0
   have hfz8_1 := kf BK125.out 1
   have hfz8_2 := kf BK125.out 2
   go_wp2
   repeat (go_quiet (fail); try go_wp2)
   go_roundg k1
   case measure => have := HK1.out; omega
   case rel => exact ⟨(wrap64 (x5_1 + 1)), zS, H', ⟨by have := HK1.out; omega⟩, ⟨zK BK125⟩, ⟨by repeat (first | (with_reducible first | exact HB.out | apply Bb1 | apply Bb2 | apply Bb3 | refine Bb4 ?_ GE125.out) | exact HB.out)⟩⟩

end Go.Proofs.Ytjgnlakgojookaa.Q
