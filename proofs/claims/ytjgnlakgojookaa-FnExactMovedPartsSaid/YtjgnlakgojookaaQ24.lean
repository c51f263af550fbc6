/- Written by a program of this session (wip/tools/pp.py) out of the translation, with the kit's printer. -/
import Derived.Test.YtjgnlakgojookaaQ0
namespace Go.Proofs.Ytjgnlakgojookaa.Q
open Go.RowKit Go.Proofs.YtjgnlakgojookaaW.PrintWords Go.Proofs.YtjgnlakgojookaaW.PrintLast Go.Proofs.YtjgnlakgojookaaW.PrintMore
attribute [local go_sem] max2_int min2_int max_two min_two max_three min_three max_four min_four
set_option linter.unusedVariables false
set_option linter.unusedSimpArgs false

/-! ### spec_l27Vector: function 101 -/
def spec_l27Vector.f (a0 : Int) : Option (Int × Int × Int) := (some (([(⟨(-1), 0, 0⟩ : S71), (⟨1, 0, 0⟩ : S71), (⟨0, (-1), 0⟩ : S71), (⟨0, 1, 0⟩ : S71), (⟨0, 0, (-1)⟩ : S71), (⟨0, 0, 1⟩ : S71)] : List (S71)) : List (S71))).bind fun y305 => (if 0 ≤ a0 then (if a0 < (y305.length : Int) then (some ((rd_T71 y305 a0).f0, (rd_T71 y305 a0).f1, (rd_T71 y305 a0).f2)) else (none)) else (none))
set_option maxHeartbeats 8000000 in
set_option maxRecDepth 100000 in
theorem spec_l27Vector.calls (a0 : Int) (r1 : Int) (r2 : Int) (r3 : Int) (w : World) (h : spec_l27Vector.f a0 = some (r1, r2, r3)) :
  Calls Try.prog 101 #[.int .i64 a0] w fun e w' => e = .returned (.agg #[.int .i64 r1, .int .i64 r2, .int .i64 r3]) ∧ Below w.heap.size w w' := by
 have hu71 := Try.underlying71
 have HB := am (Below.refl w.heap.size w)
 have H : ((some (([(⟨(-1), 0, 0⟩ : S71), (⟨1, 0, 0⟩ : S71), (⟨0, (-1), 0⟩ : S71), (⟨0, 1, 0⟩ : S71), (⟨0, 0, (-1)⟩ : S71), (⟨0, 0, 1⟩ : S71)] : List (S71)) : List (S71))).bind fun y305 => (if 0 ≤ a0 then (if a0 < (y305.length : Int) then (some ((rd_T71 y305 a0).f0, (rd_T71 y305 a0).f1, (rd_T71 y305 a0).f2)) else (none)) else (none))) = some (r1, r2, r3) := h
 clear h
 obtain ⟨y305, hy305⟩ : ∃ y_ : List (S71), y_ = (([(⟨(-1), 0, 0⟩ : S71), (⟨1, 0, 0⟩ : S71), (⟨0, (-1), 0⟩ : S71), (⟨0, 1, 0⟩ : S71), (⟨0, 0, (-1)⟩ : S71), (⟨0, 0, 1⟩ : S71)] : List (S71))) := ⟨_, rfl⟩
 replace H : (if 0 ≤ a0 then (if a0 < (y305.length : Int) then (some ((rd_T71 y305 a0).f0, (rd_T71 y305 a0).f1, (rd_T71 y305 a0).f2)) else (none)) else (none)) = some (r1, r2, r3) := by first | (rw [hy305]; with_reducible exact H) | (have H2_ := (Option.bind_some _ _).symm.trans H; rw [hy305]; with_reducible exact H2_) | (have H2_ := (Option.bind_some _ _).symm.trans H; with_reducible exact H2_) | with_reducible exact H | (rw [hy305]; exact H) | exact H
 have Ny305 := am hy305
 clear hy305
 by_cases c2 : 0 ≤ a0
 rotate_left
 ·rw [if_neg c2] at H
  exact absurd H (by simp)
 rw [if_pos c2] at H
 have c2b0 : decide (0 ≤ a0) = true := decide_eq_true c2
 clear c2
 by_cases c3 : a0 < (y305.length : Int)
 rotate_left
 ·rw [if_neg c3] at H
  exact absurd H (by simp)
 rw [if_pos c3] at H
 have c3b0 : decide (a0 < (y305.length : Int)) = true := decide_eq_true c3
 clear c3
 simp only [Option.some.injEq, Prod.mk.injEq] at H
 obtain ⟨rfl, rfl, rfl⟩ := H
 go_enter Try.func101, Try.ntmps101
 go_wp2_with (first | ((with_reducible refine gate_dst (N := 2) rfl ?_); refine box_event ?hg (N := 2) ?hd (cs := #[.int .i64 0, .int .i64 0, .int .i64 0]) (t := 71) ?hr ?_; (case hd => rfl); (case hg => rfl); (case hr => first | (go_simp; done) | (go_simp; rfl)); intro gb304 hg w4 hbox hb; have n0_ := am (Bb6 zB hb); have n1_ := am (hbox); have n2_ := am ((by rw [hg]; exact (Bb5 zB) : w.heap.size ≤ gb304)); have n3_ := n2_; clear HB; have HB := n0_; have BK304 := n1_; have GW304 := n2_; have GE304 := n3_; clear n0_ n1_ n2_ n3_; clear hb hbox hg) | ((with_reducible refine gate_dst (N := 9) rfl ?_); refine Kd.R_lit k71 _ 71 ?hg (N := 9) ?hd (xs := ([(⟨(-1), 0, 0⟩ : S71), (⟨1, 0, 0⟩ : S71), (⟨0, (-1), 0⟩ : S71), (⟨0, 1, 0⟩ : S71), (⟨0, 0, (-1)⟩ : S71), (⟨0, 0, 1⟩ : S71)] : List (S71))) (inner := [.int .i64 (-1), .int .i64 0, .int .i64 0, .int .i64 1, .int .i64 0, .int .i64 0, .int .i64 0, .int .i64 (-1), .int .i64 0, .int .i64 0, .int .i64 1, .int .i64 0, .int .i64 0, .int .i64 0, .int .i64 (-1), .int .i64 0, .int .i64 0, .int .i64 1]) (ok := fun _ => True) (okp := fun _ => True) ?hr ?hp (fun _ hk => hk) trivial (Below.refl _ _) (Nat.le_refl _) (by simp) ?_; (case hd => rfl); (case hg => rfl); (case hr => first | (go_simp; done) | (go_simp; rfl)); (case hp => exact (Reps.c3 (show Kd.M k71 _ _ _ (⟨(-1), 0, 0⟩ : S71) [.int .i64 (-1), .int .i64 0, .int .i64 0] from (k71_mkM _ _ _ (⟨(-1), 0, 0⟩ : S71) )) (Reps.c3 (show Kd.M k71 _ _ _ (⟨1, 0, 0⟩ : S71) [.int .i64 1, .int .i64 0, .int .i64 0] from (k71_mkM _ _ _ (⟨1, 0, 0⟩ : S71) )) (Reps.c3 (show Kd.M k71 _ _ _ (⟨0, (-1), 0⟩ : S71) [.int .i64 0, .int .i64 (-1), .int .i64 0] from (k71_mkM _ _ _ (⟨0, (-1), 0⟩ : S71) )) (Reps.c3 (show Kd.M k71 _ _ _ (⟨0, 1, 0⟩ : S71) [.int .i64 0, .int .i64 1, .int .i64 0] from (k71_mkM _ _ _ (⟨0, 1, 0⟩ : S71) )) (Reps.c3 (show Kd.M k71 _ _ _ (⟨0, 0, (-1)⟩ : S71) [.int .i64 0, .int .i64 0, .int .i64 (-1)] from (k71_mkM _ _ _ (⟨0, 0, (-1)⟩ : S71) )) (Reps.c3 (show Kd.M k71 _ _ _ (⟨0, 0, 1⟩ : S71) [.int .i64 0, .int .i64 0, .int .i64 1] from (k71_mkM _ _ _ (⟨0, 0, 1⟩ : S71) )) (Reps.none _ _)))))))); intro v306 w5 ho6 hb hg_ hnew_; clear hg_ hnew_; (first | rw [← Ny305.out] at ho6 | (simp only [Int.reduceToNat] at ho6; rw [← Ny305.out] at ho6)); have n0_ := am (Kd.R_lower (Kd.R_newB ho6 (g := gb304) (o := .cells #[.int .i64 0, .int .i64 0, .int .i64 0] 71 (0, 0)) (zK BK304)) (Bb5 (by repeat (first | (with_reducible first | exact HB.out | apply Bb1 | apply Bb2 | apply Bb3 | refine Bb4 ?_ GE304.out) | exact HB.out)))); have n1_ := am (Bk4 (g := gb304) (o := .cells #[.int .i64 0, .int .i64 0, .int .i64 0] 71 (0, 0)) (zK BK304) hb); have n2_ := am (Bb6 (by repeat (first | (with_reducible first | exact HB.out | apply Bb1 | apply Bb2 | apply Bb3 | refine Bb4 ?_ GE304.out) | exact HB.out)) hb); clear BK304; clear HB; have HO307 := n0_; have BK304 := n1_; have HB := n2_; clear n0_ n1_ n2_; clear hb ho6; obtain ⟨Ao7, co7, eo7⟩ := Kd.R_slice HO307.out; subst eo7; have p308 : 0 ≤ (a0 : Int) := zD; have q308 : a0 < (y305.length : Int) := zD; obtain ⟨ad308, e308, hx308_0, hx308_1, hx308_2⟩ := at_T71 (Kd.R_reads' HO307.out).2.2 a0 p308 q308; cases e308; replace p308 := eq_true p308; replace q308 := eq_true q308; have hcz8_0 : w5.cell? ⟨gb304, 0, none⟩ = some (.int .i64 0) := (kc BK304.out 0).trans rfl; have hcz8_1 : w5.cell? ⟨gb304, 1, none⟩ = some (.int .i64 0) := (kc BK304.out 1).trans rfl; have hcz8_2 : w5.cell? ⟨gb304, 2, none⟩ = some (.int .i64 0) := (kc BK304.out 2).trans rfl; have hfz8_0 := kf BK304.out 0; have hfz8_1 := kf BK304.out 1; have hfz8_2 := kf BK304.out 2))
 refine bodyPost_ret (results_cell_row rfl _ _ gb304 71 #[.int .i64 ((rd_T71 y305 a0).f0), .int .i64 ((rd_T71 y305 a0).f1), .int .i64 ((rd_T71 y305 a0).f2)] (0, 0) _ rfl (by (with_reducible repeat (first | refine Bk2 ?_ _ | refine Bk3 ?_ | refine Bk1 ?_ _)); refine blk_put (cs := #[.int .i64 ((rd_T71 y305 a0).f0), .int .i64 ((rd_T71 y305 a0).f1), .int .i64 0]) ?_ 2 _ rfl; (with_reducible repeat (first | refine Bk2 ?_ _ | refine Bk3 ?_ | refine Bk1 ?_ _)); refine blk_put (cs := #[.int .i64 ((rd_T71 y305 a0).f0), .int .i64 0, .int .i64 0]) ?_ 1 _ rfl; (with_reducible repeat (first | refine Bk2 ?_ _ | refine Bk3 ?_ | refine Bk1 ?_ _)); refine blk_put (cs := #[.int .i64 0, .int .i64 0, .int .i64 0]) ?_ 0 _ rfl; (with_reducible repeat (first | refine Bk2 ?_ _ | refine Bk3 ?_ | refine Bk1 ?_ _)); exact BK304.out) Try.underlying71 rfl (by kernel_rfl)) rfl ?_
 exact ⟨zE, by repeat (first | (with_reducible first | exact HB.out | apply Bb1 | apply Bb2 | apply Bb3 | refine Bb4 ?_ GE304.out) | exact HB.out)⟩

end Go.Proofs.Ytjgnlakgojookaa.Q
