/- Written by a program of this session (wip/tools/pp.py) out of the translation, with the kit's printer. -/
import Derived.Test.YtcgnnfaemjjljaaDoorQ0
import Derived.Test.YtcgnnfaemjjljaaDoorQ1
namespace Go.Proofs.YtcgnnfaemjjljaaDoor.Q
open Go.RowKit Go.Proofs.YtcgnnfaemjjljaaDoorW.PrintWords Go.Proofs.YtcgnnfaemjjljaaDoorW.PrintLast Go.Proofs.YtcgnnfaemjjljaaDoorW.PrintMore
attribute [local go_sem] max2_int min2_int max_two min_two max_three min_three max_four min_four
set_option linter.unusedVariables false
set_option linter.unusedSimpArgs false

attribute [local go_sem high] eqA42
/-! ### spec_l02Index: function 70 -/
def spec_l02Index.l0 : Nat → List (S42) → Int → Int → Int → Option (Int)
 | 0, _, _, _, _ => none
 | k + 1, x0, x5, x197000, x197001 => if x5 < (x0.length : Int) then (if 0 ≤ x5 then (if (((rd_T42 x0 x5).f0) == x197000 && (((rd_T42 x0 x5).f1) == x197001)) = true then (some x5) else (spec_l02Index.l0 k x0 (wrap64 (x5 + 1)) x197000 x197001)) else (none)) else (some (-1))
def spec_l02Index.f (k : Nat) (l0 : List (S42)) (a1_0 : Int) (a1_1 : Int) : Option (Int) := spec_l02Index.l0 k l0 0 a1_0 a1_1
theorem spec_l02Index.mono_l : ∀ k, (∀ y0 y1 y2 y3, LeO (spec_l02Index.l0 k y0 y1 y2 y3) (spec_l02Index.l0 (k + 1) y0 y1 y2 y3))
 | 0 => fun _ _ _ _ r h => by simp [spec_l02Index.l0] at h
 | k + 1 => by
  have ih0 := spec_l02Index.mono_l k
  ·intro y0 y1 y2 y3
   unfold spec_l02Index.l0
   repeat' first
   | (with_reducible exact ih0 _ _ _ _)
   | (with_reducible exact LeO.refl _)
   | (with_reducible exact LeO.none _)
   | (with_reducible refine LeO.ite ?_ ?_)
   | (with_reducible refine LeO.bind ?_ (fun _ => ?_))
   | exact ih0 _ _ _ _
   | exact LeO.none _
   | refine LeO.ite ?_ ?_
   | refine LeO.bind ?_ (fun _ => ?_)
theorem spec_l02Index.mono : ∀ a0 a1 a2 k, LeO (spec_l02Index.f k a0 a1 a2) (spec_l02Index.f (k + 1) a0 a1 a2) := by
 intro a0 a1 a2 k
 have ih0 := spec_l02Index.mono_l k
 unfold spec_l02Index.f
 repeat' first
   | (with_reducible exact ih0 _ _ _ _)
   | (with_reducible exact LeO.refl _)
   | (with_reducible exact LeO.none _)
   | (with_reducible refine LeO.ite ?_ ?_)
   | (with_reducible refine LeO.bind ?_ (fun _ => ?_))
   | exact ih0 _ _ _ _
   | exact LeO.none _
   | refine LeO.ite ?_ ?_
   | refine LeO.bind ?_ (fun _ => ?_)
set_option maxHeartbeats 8000000 in
set_option maxRecDepth 100000 in
theorem spec_l02Index.calls (k : Nat) (A0 : Option Addr) (c0 : Nat) (l0 : List (S42)) (a1_0 : Int) (a1_1 : Int) (r : Int) (w : World) (hr0 : Kd.C k42 w A0 l0.length l0) (hc0 : l0.length ≤ c0) (h : spec_l02Index.f k l0 a1_0 a1_1 = some r) :
  Calls Tryd.prog 70 #[.slice A0 l0.length c0, .agg #[.int .i64 a1_0, .int .i64 a1_1]] w fun e w' => e = .returned (.int .i64 r) ∧ Below w.heap.size w w' := by
 have hu42 := Tryd.underlying42
 have HR0 := am hr0
 have HC0 := am hc0
 clear hr0 hc0
 have HB := am (Below.refl w.heap.size w)
 have H : (spec_l02Index.l0 k l0 0 a1_0 a1_1) = some r := h
 clear h
 have H' := am H
 clear H
 go_enter Tryd.func70, Tryd.ntmps70
 go_wp2_with (first | ((with_reducible refine gate_dst (N := 3) rfl ?_); refine box_event ?hg (N := 3) ?hd (cs := #[.int .i64 a1_0, .int .i64 a1_1]) (t := 42) ?hr ?_; (case hd => rfl); (case hg => rfl); (case hr => first | (go_simp; done) | (go_simp; rfl)); intro gb196 hg w3 hbox hb; have n0_ := am (Bb6 zB hb); have n1_ := am (hbox); have n2_ := am ((by rw [hg]; exact (Bb5 zB) : w.heap.size ≤ gb196)); have n3_ := n2_; clear HB; have HB := n0_; have BK196 := n1_; have GW196 := n2_; have GE196 := n3_; clear n0_ n1_ n2_ n3_; clear hb hbox hg))
 repeat (go_quiet (first | ((with_reducible refine gate_dst (N := 3) rfl ?_); refine box_event ?hg (N := 3) ?hd (cs := #[.int .i64 a1_0, .int .i64 a1_1]) (t := 42) ?hr ?_; (case hd => rfl); (case hg => rfl); (case hr => first | (go_simp; done) | (go_simp; rfl)); intro gb196 hg w3 hbox hb; have n0_ := am (Bb6 zB hb); have n1_ := am (hbox); have n2_ := am ((by rw [hg]; exact (Bb5 zB) : w.heap.size ≤ gb196)); have n3_ := n2_; clear HB; have HB := n0_; have BK196 := n1_; have GW196 := n2_; have GE196 := n3_; clear n0_ n1_ n2_ n3_; clear hb hbox hg)); try go_wp2_with (first | ((with_reducible refine gate_dst (N := 3) rfl ?_); refine box_event ?hg (N := 3) ?hd (cs := #[.int .i64 a1_0, .int .i64 a1_1]) (t := 42) ?hr ?_; (case hd => rfl); (case hg => rfl); (case hr => first | (go_simp; done) | (go_simp; rfl)); intro gb196 hg w3 hbox hb; have n0_ := am (Bb6 zB hb); have n1_ := am (hbox); have n2_ := am ((by rw [hg]; exact (Bb5 zB) : w.heap.size ≤ gb196)); have n3_ := n2_; clear HB; have HB := n0_; have BK196 := n1_; have GW196 := n2_; have GE196 := n3_; clear n0_ n1_ n2_ n3_; clear hb hbox hg)))
 go_loopg [5] k (fun kq v5 w' => ∃ (x5_1 : Int), v5 = .int .i64 x5_1 ∧ Aside0 (spec_l02Index.l0 kq l0 x5_1 a1_0 a1_1 = some r) ∧ Aside0 (kq ≤ k) ∧ Aside0 (w'.heap[gb196]? = some (.cells #[.int .i64 a1_0, .int .i64 a1_1] 42 (0, 0))) ∧ Aside0 (Below w.heap.size w w'))
 case atStart => exact ⟨(0), zS, H', ⟨Nat.le_refl _⟩, ⟨zK BK196⟩, ⟨by repeat (first | (with_reducible first | exact HB.out | apply Bb1 | apply Bb2 | apply Bb3 | refine Bb4 ?_ GE196.out) | exact HB.out)⟩⟩
 case round =>
  clear H'
  try clear p2
  obtain ⟨x5_1, rfl, HA, HK1, BK196, HB⟩ := hrel
  cases gk with
  | zero => exact absurd HA.out (by simp [spec_l02Index.l0])
  | succ k1 =>
   have H := HA.out
   clear HA
   simp only [spec_l02Index.l0] at H
   by_cases c4 : x5_1 < (l0.length : Int)
   rotate_left
   ·rw [if_neg c4] at H
    have c4b0 : decide (x5_1 < (l0.length : Int)) = false := decide_eq_false c4
    clear c4
    obtain rfl := oi H
    go_wp2
    repeat (go_quiet (fail); try go_wp2)
    go_ret
    exact ⟨zE, by repeat (first | (with_reducible first | exact HB.out | apply Bb1 | apply Bb2 | apply Bb3 | refine Bb4 ?_ GE196.out) | exact HB.out)⟩
   rw [if_pos c4] at H
   have c4b0 : decide (x5_1 < (l0.length : Int)) = true := decide_eq_true c4
   clear c4
   by_cases c5 : 0 ≤ x5_1
   rotate_left
   ·rw [if_neg c5] at H
    exact absurd H (by simp)
   rw [if_pos c5] at H
   have c5b0 : decide (0 ≤ x5_1) = true := decide_eq_true c5
   clear c5
   by_cases c6 : (((rd_T42 l0 x5_1).f0) == a1_0 && (((rd_T42 l0 x5_1).f1) == a1_1)) = true
   ·rw [if_pos c6] at H
    have c6b0 : (((rd_T42 l0 x5_1).f0) == a1_0 && (((rd_T42 l0 x5_1).f1) == a1_1)) = true := c6
    (try (have c6b1 : decide (((rd_T42 l0 x5_1).f0) = a1_0 && (((rd_T42 l0 x5_1).f1) == a1_1)) = true := by simpa using c6))
    (try (have c6b2 : (((rd_T42 l0 x5_1).f0) == a1_0 && (((rd_T42 l0 x5_1).f1) == a1_1)) = true := by simpa using c6))
    clear c6
    obtain rfl := oi H
    have p197 : 0 ≤ (x5_1 : Int) := zD
    have q197 : x5_1 < (l0.length : Int) := zD
    obtain ⟨ad197, e197, hx197_0, hx197_1⟩ := at_T42 HR0.out x5_1 p197 q197
    cases e197
    replace hx197_0 := pc HB.out hx197_0
    replace hx197_1 := pc HB.out hx197_1
    replace p197 := eq_true p197
    replace q197 := eq_true q197
    have hcz7_0 : wr.cell? ⟨gb196, 0, none⟩ = some (.int .i64 a1_0) := (kc BK196.out 0).trans rfl
    have hcz7_1 : wr.cell? ⟨gb196, 1, none⟩ = some (.int .i64 a1_1) := (kc BK196.out 1).trans rfl
    have hfz7_0 := kf BK196.out 0
    have hfz7_1 := kf BK196.out 1
    go_wp2
    repeat (go_quiet (fail); try go_wp2)
    go_ret
    exact ⟨zE, by repeat (first | (with_reducible first | exact HB.out | apply Bb1 | apply Bb2 | apply Bb3 | refine Bb4 ?_ GE196.out) | exact HB.out)⟩
   rw [if_neg c6] at H
   have c6b0 : (((rd_T42 l0 x5_1).f0) == a1_0 && (((rd_T42 l0 x5_1).f1) == a1_1)) = false := by simpa using c6
   (try (have c6b1 : decide (((rd_T42 l0 x5_1).f0) = a1_0 && (((rd_T42 l0 x5_1).f1) == a1_1)) = false := by simpa using c6))
   (try (have c6b2 : (((rd_T42 l0 x5_1).f0) == a1_0 && (((rd_T42 l0 x5_1).f1) == a1_1)) = false := by simpa using c6))
   (try (have c6b3 : ¬ (((rd_T42 l0 x5_1).f0) = a1_0 && (((rd_T42 l0 x5_1).f1) == a1_1)) := by simpa using c6))
   clear c6
   have H' := am H
   clear H
   have p197 : 0 ≤ (x5_1 : Int) := zD
   have q197 : x5_1 < (l0.length : Int) := zD
   obtain ⟨ad197, e197, hx197_0, hx197_1⟩ := at_T42 HR0.out x5_1 p197 q197
   cases e197
   replace hx197_0 := pc HB.out hx197_0
   replace hx197_1 := pc HB.out hx197_1
   replace p197 := eq_true p197
   replace q197 := eq_true q197
   have hcz8_0 : wr.cell? ⟨gb196, 0, none⟩ = some (.int .i64 a1_0) := (kc BK196.out 0).trans rfl
   have hcz8_1 : wr.cell? ⟨gb196, 1, none⟩ = some (.int .i64 a1_1) := (kc BK196.out 1).trans rfl
   have hfz8_0 := kf BK196.out 0
   have hfz8_1 := kf BK196.out 1
   go_wp2
   repeat (go_quiet (fail); try go_wp2)
   go_roundg k1
   case measure => have := HK1.out; omega
   case rel => exact ⟨(wrap64 (x5_1 + 1)), zS, H', ⟨by have := HK1.out; omega⟩, ⟨zK BK196⟩, ⟨by repeat (first | (with_reducible first | exact HB.out | apply Bb1 | apply Bb2 | apply Bb3 | refine Bb4 ?_ GE196.out) | exact HB.out)⟩⟩

/-! ### spec_l02Around: function 76 -/
def spec_l02Around.f (a0_0 : Int) (a0_1 : Int) : Option ((List (S42))) := some (([(⟨a0_0, wrap64 (a0_1 - 1)⟩ : S42), (⟨wrap64 (a0_0 - 1), a0_1⟩ : S42), (⟨wrap64 (a0_0 + 1), a0_1⟩ : S42), (⟨a0_0, wrap64 (a0_1 + 1)⟩ : S42)] : List (S42)))
set_option maxHeartbeats 8000000 in
set_option maxRecDepth 100000 in
theorem spec_l02Around.calls (a0_0 : Int) (a0_1 : Int) (r : List (S42)) (w : World) (h : spec_l02Around.f a0_0 a0_1 = some r) :
  Calls Tryd.prog 76 #[.agg #[.int .i64 a0_0, .int .i64 a0_1]] w fun e w' => ∃ v0_ : Value, e = .returned (v0_) ∧ Kd.R k42 42 w' w.heap.size (fun _ => True) v0_ r ∧ Below w.heap.size w w' := by
 have hu42 := Tryd.underlying42
 have HB := am (Below.refl w.heap.size w)
 have H : (some (([(⟨a0_0, wrap64 (a0_1 - 1)⟩ : S42), (⟨wrap64 (a0_0 - 1), a0_1⟩ : S42), (⟨wrap64 (a0_0 + 1), a0_1⟩ : S42), (⟨a0_0, wrap64 (a0_1 + 1)⟩ : S42)] : List (S42)))) = some r := h
 clear h
 obtain ⟨y199, hy199⟩ : ∃ y_ : List (S42), y_ = (([(⟨a0_0, wrap64 (a0_1 - 1)⟩ : S42), (⟨wrap64 (a0_0 - 1), a0_1⟩ : S42), (⟨wrap64 (a0_0 + 1), a0_1⟩ : S42), (⟨a0_0, wrap64 (a0_1 + 1)⟩ : S42)] : List (S42))) := ⟨_, rfl⟩
 replace H : (some y199) = some r := by first | (rw [hy199]; with_reducible exact H) | (have H2_ := (Option.bind_some _ _).symm.trans H; rw [hy199]; with_reducible exact H2_) | (have H2_ := (Option.bind_some _ _).symm.trans H; with_reducible exact H2_) | with_reducible exact H | (rw [hy199]; exact H) | exact H
 have Ny199 := am hy199
 clear hy199
 obtain rfl := oi H
 go_enter Tryd.func76, Tryd.ntmps76
 go_wp2_with (first | ((with_reducible refine gate_dst (N := 1) rfl ?_); refine box_event ?hg (N := 1) ?hd (cs := #[.int .i64 a0_0, .int .i64 a0_1]) (t := 42) ?hr ?_; (case hd => rfl); (case hg => rfl); (case hr => first | (go_simp; done) | (go_simp; rfl)); intro gb198 hg w2 hbox hb; have n0_ := am (Bb6 zB hb); have n1_ := am (hbox); have n2_ := am ((by rw [hg]; exact (Bb5 zB) : w.heap.size ≤ gb198)); have n3_ := n2_; clear HB; have HB := n0_; have BK198 := n1_; have GW198 := n2_; have GE198 := n3_; clear n0_ n1_ n2_ n3_; clear hb hbox hg; have hcz3_0 : w2.cell? ⟨gb198, 0, none⟩ = some (.int .i64 a0_0) := (kc BK198.out 0).trans rfl; have hcz3_1 : w2.cell? ⟨gb198, 1, none⟩ = some (.int .i64 a0_1) := (kc BK198.out 1).trans rfl; have hfz3_0 := kf BK198.out 0; have hfz3_1 := kf BK198.out 1) | ((with_reducible refine gate_dst (N := 27) rfl ?_); refine Kd.R_lit k42 _ 42 ?hg (N := 27) ?hd (xs := ([(⟨a0_0, wrap64 (a0_1 - 1)⟩ : S42), (⟨wrap64 (a0_0 - 1), a0_1⟩ : S42), (⟨wrap64 (a0_0 + 1), a0_1⟩ : S42), (⟨a0_0, wrap64 (a0_1 + 1)⟩ : S42)] : List (S42))) (inner := [.int .i64 a0_0, .int .i64 (wrap64 (a0_1 - 1)), .int .i64 (wrap64 (a0_0 - 1)), .int .i64 a0_1, .int .i64 (wrap64 (a0_0 + 1)), .int .i64 a0_1, .int .i64 a0_0, .int .i64 (wrap64 (a0_1 + 1))]) (ok := fun _ => True) (okp := fun _ => True) ?hr ?hp (fun _ hk => hk) trivial (Below.refl _ _) (Nat.le_refl _) (by simp) ?_; (case hd => rfl); (case hg => rfl); (case hr => first | (go_simp; done) | (go_simp; rfl)); (case hp => exact (Reps.c2 (show Kd.M k42 _ _ _ (⟨a0_0, wrap64 (a0_1 - 1)⟩ : S42) [.int .i64 a0_0, .int .i64 (wrap64 (a0_1 - 1))] from (k42_mkM _ _ _ (⟨a0_0, wrap64 (a0_1 - 1)⟩ : S42) )) (Reps.c2 (show Kd.M k42 _ _ _ (⟨wrap64 (a0_0 - 1), a0_1⟩ : S42) [.int .i64 (wrap64 (a0_0 - 1)), .int .i64 a0_1] from (k42_mkM _ _ _ (⟨wrap64 (a0_0 - 1), a0_1⟩ : S42) )) (Reps.c2 (show Kd.M k42 _ _ _ (⟨wrap64 (a0_0 + 1), a0_1⟩ : S42) [.int .i64 (wrap64 (a0_0 + 1)), .int .i64 a0_1] from (k42_mkM _ _ _ (⟨wrap64 (a0_0 + 1), a0_1⟩ : S42) )) (Reps.c2 (show Kd.M k42 _ _ _ (⟨a0_0, wrap64 (a0_1 + 1)⟩ : S42) [.int .i64 a0_0, .int .i64 (wrap64 (a0_1 + 1))] from (k42_mkM _ _ _ (⟨a0_0, wrap64 (a0_1 + 1)⟩ : S42) )) (Reps.none _ _)))))); intro v200 w4 ho5 hb hg_ hnew_; clear hg_ hnew_; (first | rw [← Ny199.out] at ho5 | (simp only [Int.reduceToNat] at ho5; rw [← Ny199.out] at ho5)); have n0_ := am (Kd.R_lower (Kd.R_newB ho5 (g := gb198) (o := .cells #[.int .i64 a0_0, .int .i64 a0_1] 42 (0, 0)) (zK BK198)) (Bb5 (by repeat (first | (with_reducible first | exact HB.out | apply Bb1 | apply Bb2 | apply Bb3 | refine Bb4 ?_ GE198.out) | exact HB.out)))); have n1_ := am (Bk4 (g := gb198) (o := .cells #[.int .i64 a0_0, .int .i64 a0_1] 42 (0, 0)) (zK BK198) hb); have n2_ := am (Bb6 (by repeat (first | (with_reducible first | exact HB.out | apply Bb1 | apply Bb2 | apply Bb3 | refine Bb4 ?_ GE198.out) | exact HB.out)) hb); clear BK198; clear HB; have HO201 := n0_; have BK198 := n1_; have HB := n2_; clear n0_ n1_ n2_; clear hb ho5))
 go_ret
 exact ⟨_, zE, by (with_reducible repeat (first | apply Kd.R_alloc | apply Kd.R_drewN | apply Kd.R_drew)); exact Kd.R_mono HO201.out (fun _ hk => trivial), by repeat (first | (with_reducible first | exact HB.out | apply Bb1 | apply Bb2 | apply Bb3 | refine Bb4 ?_ GE198.out) | exact HB.out)⟩

end Go.Proofs.YtcgnnfaemjjljaaDoor.Q
