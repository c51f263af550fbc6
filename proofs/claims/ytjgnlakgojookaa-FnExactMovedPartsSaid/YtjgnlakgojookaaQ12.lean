/- Written by a program of this session (wip/tools/pp.py) out of the translation, with the kit's printer. -/
import Derived.Test.YtjgnlakgojookaaQ0
import Derived.Test.YtjgnlakgojookaaQ1
namespace Go.Proofs.Ytjgnlakgojookaa.Q
open Go.RowKit Go.Proofs.YtjgnlakgojookaaW.PrintWords Go.Proofs.YtjgnlakgojookaaW.PrintLast Go.Proofs.YtjgnlakgojookaaW.PrintMore
attribute [local go_sem] max2_int min2_int max_two min_two max_three min_three max_four min_four
set_option linter.unusedVariables false
set_option linter.unusedSimpArgs false

attribute [local go_sem high] eqA71
/-! ### impl_cubesAround: function 96 -/
def impl_cubesAround.f (a0_0 : Int) (a0_1 : Int) (a0_2 : Int) : Option ((List (S71))) := some (([(⟨a0_0, a0_1, wrap64 (a0_2 - 1)⟩ : S71), (⟨a0_0, wrap64 (a0_1 - 1), a0_2⟩ : S71), (⟨wrap64 (a0_0 - 1), a0_1, a0_2⟩ : S71), (⟨wrap64 (a0_0 + 1), a0_1, a0_2⟩ : S71), (⟨a0_0, wrap64 (a0_1 + 1), a0_2⟩ : S71), (⟨a0_0, a0_1, wrap64 (a0_2 + 1)⟩ : S71)] : List (S71)))
set_option maxHeartbeats 8000000 in
set_option maxRecDepth 100000 in
theorem impl_cubesAround.calls (a0_0 : Int) (a0_1 : Int) (a0_2 : Int) (r : List (S71)) (w : World) (h : impl_cubesAround.f a0_0 a0_1 a0_2 = some r) :
  Calls Try.prog 96 #[.agg #[.int .i64 a0_0, .int .i64 a0_1, .int .i64 a0_2]] w fun e w' => ∃ v0_ : Value, e = .returned (v0_) ∧ Kd.R k71 71 w' w.heap.size (fun _ => True) v0_ r ∧ Below w.heap.size w w' := by
 have hu71 := Try.underlying71
 have HB := am (Below.refl w.heap.size w)
 have H : (some (([(⟨a0_0, a0_1, wrap64 (a0_2 - 1)⟩ : S71), (⟨a0_0, wrap64 (a0_1 - 1), a0_2⟩ : S71), (⟨wrap64 (a0_0 - 1), a0_1, a0_2⟩ : S71), (⟨wrap64 (a0_0 + 1), a0_1, a0_2⟩ : S71), (⟨a0_0, wrap64 (a0_1 + 1), a0_2⟩ : S71), (⟨a0_0, a0_1, wrap64 (a0_2 + 1)⟩ : S71)] : List (S71)))) = some r := h
 clear h
 obtain ⟨y189, hy189⟩ : ∃ y_ : List (S71), y_ = (([(⟨a0_0, a0_1, wrap64 (a0_2 - 1)⟩ : S71), (⟨a0_0, wrap64 (a0_1 - 1), a0_2⟩ : S71), (⟨wrap64 (a0_0 - 1), a0_1, a0_2⟩ : S71), (⟨wrap64 (a0_0 + 1), a0_1, a0_2⟩ : S71), (⟨a0_0, wrap64 (a0_1 + 1), a0_2⟩ : S71), (⟨a0_0, a0_1, wrap64 (a0_2 + 1)⟩ : S71)] : List (S71))) := ⟨_, rfl⟩
 replace H : (some y189) = some r := by first | (rw [hy189]; with_reducible exact H) | (have H2_ := (Option.bind_some _ _).symm.trans H; rw [hy189]; with_reducible exact H2_) | (have H2_ := (Option.bind_some _ _).symm.trans H; with_reducible exact H2_) | with_reducible exact H | (rw [hy189]; exact H) | exact H
 have Ny189 := am hy189
 clear hy189
 obtain rfl := oi H
 go_enter Try.func96, Try.ntmps96
 go_wp2_with (first | ((with_reducible refine gate_dst (N := 1) rfl ?_); refine box_event ?hg (N := 1) ?hd (cs := #[.int .i64 a0_0, .int .i64 a0_1, .int .i64 a0_2]) (t := 71) ?hr ?_; (case hd => rfl); (case hg => rfl); (case hr => first | (go_simp; done) | (go_simp; rfl)); intro gb188 hg w2 hbox hb; have n0_ := am (Bb6 zB hb); have n1_ := am (hbox); have n2_ := am ((by rw [hg]; exact (Bb5 zB) : w.heap.size ≤ gb188)); have n3_ := n2_; clear HB; have HB := n0_; have BK188 := n1_; have GW188 := n2_; have GE188 := n3_; clear n0_ n1_ n2_ n3_; clear hb hbox hg; have hcz3_0 : w2.cell? ⟨gb188, 0, none⟩ = some (.int .i64 a0_0) := (kc BK188.out 0).trans rfl; have hcz3_1 : w2.cell? ⟨gb188, 1, none⟩ = some (.int .i64 a0_1) := (kc BK188.out 1).trans rfl; have hcz3_2 : w2.cell? ⟨gb188, 2, none⟩ = some (.int .i64 a0_2) := (kc BK188.out 2).trans rfl; have hfz3_0 := kf BK188.out 0; have hfz3_1 := kf BK188.out 1; have hfz3_2 := kf BK188.out 2) | ((with_reducible refine gate_dst (N := 51) rfl ?_); refine Kd.R_lit k71 _ 71 ?hg (N := 51) ?hd (xs := ([(⟨a0_0, a0_1, wrap64 (a0_2 - 1)⟩ : S71), (⟨a0_0, wrap64 (a0_1 - 1), a0_2⟩ : S71), (⟨wrap64 (a0_0 - 1), a0_1, a0_2⟩ : S71), (⟨wrap64 (a0_0 + 1), a0_1, a0_2⟩ : S71), (⟨a0_0, wrap64 (a0_1 + 1), a0_2⟩ : S71), (⟨a0_0, a0_1, wrap64 (a0_2 + 1)⟩ : S71)] : List (S71))) (inner := [.int .i64 a0_0, .int .i64 a0_1, .int .i64 (wrap64 (a0_2 - 1)), .int .i64 a0_0, .int .i64 (wrap64 (a0_1 - 1)), .int .i64 a0_2, .int .i64 (wrap64 (a0_0 - 1)), .int .i64 a0_1, .int .i64 a0_2, .int .i64 (wrap64 (a0_0 + 1)), .int .i64 a0_1, .int .i64 a0_2, .int .i64 a0_0, .int .i64 (wrap64 (a0_1 + 1)), .int .i64 a0_2, .int .i64 a0_0, .int .i64 a0_1, .int .i64 (wrap64 (a0_2 + 1))]) (ok := fun _ => True) (okp := fun _ => True) ?hr ?hp (fun _ hk => hk) trivial (Below.refl _ _) (Nat.le_refl _) (by simp) ?_; (case hd => rfl); (case hg => rfl); (case hr => first | (go_simp; done) | (go_simp; rfl)); (case hp => exact (Reps.c3 (show Kd.M k71 _ _ _ (⟨a0_0, a0_1, wrap64 (a0_2 - 1)⟩ : S71) [.int .i64 a0_0, .int .i64 a0_1, .int .i64 (wrap64 (a0_2 - 1))] from (k71_mkM _ _ _ (⟨a0_0, a0_1, wrap64 (a0_2 - 1)⟩ : S71) )) (Reps.c3 (show Kd.M k71 _ _ _ (⟨a0_0, wrap64 (a0_1 - 1), a0_2⟩ : S71) [.int .i64 a0_0, .int .i64 (wrap64 (a0_1 - 1)), .int .i64 a0_2] from (k71_mkM _ _ _ (⟨a0_0, wrap64 (a0_1 - 1), a0_2⟩ : S71) )) (Reps.c3 (show Kd.M k71 _ _ _ (⟨wrap64 (a0_0 - 1), a0_1, a0_2⟩ : S71) [.int .i64 (wrap64 (a0_0 - 1)), .int .i64 a0_1, .int .i64 a0_2] from (k71_mkM _ _ _ (⟨wrap64 (a0_0 - 1), a0_1, a0_2⟩ : S71) )) (Reps.c3 (show Kd.M k71 _ _ _ (⟨wrap64 (a0_0 + 1), a0_1, a0_2⟩ : S71) [.int .i64 (wrap64 (a0_0 + 1)), .int .i64 a0_1, .int .i64 a0_2] from (k71_mkM _ _ _ (⟨wrap64 (a0_0 + 1), a0_1, a0_2⟩ : S71) )) (Reps.c3 (show Kd.M k71 _ _ _ (⟨a0_0, wrap64 (a0_1 + 1), a0_2⟩ : S71) [.int .i64 a0_0, .int .i64 (wrap64 (a0_1 + 1)), .int .i64 a0_2] from (k71_mkM _ _ _ (⟨a0_0, wrap64 (a0_1 + 1), a0_2⟩ : S71) )) (Reps.c3 (show Kd.M k71 _ _ _ (⟨a0_0, a0_1, wrap64 (a0_2 + 1)⟩ : S71) [.int .i64 a0_0, .int .i64 a0_1, .int .i64 (wrap64 (a0_2 + 1))] from (k71_mkM _ _ _ (⟨a0_0, a0_1, wrap64 (a0_2 + 1)⟩ : S71) )) (Reps.none _ _)))))))); intro v190 w4 ho5 hb hg_ hnew_; clear hg_ hnew_; (first | rw [← Ny189.out] at ho5 | (simp only [Int.reduceToNat] at ho5; rw [← Ny189.out] at ho5)); have n0_ := am (Kd.R_lower (Kd.R_newB ho5 (g := gb188) (o := .cells #[.int .i64 a0_0, .int .i64 a0_1, .int .i64 a0_2] 71 (0, 0)) (zK BK188)) (Bb5 (by repeat (first | (with_reducible first | exact HB.out | apply Bb1 | apply Bb2 | apply Bb3 | refine Bb4 ?_ GE188.out) | exact HB.out)))); have n1_ := am (Bk4 (g := gb188) (o := .cells #[.int .i64 a0_0, .int .i64 a0_1, .int .i64 a0_2] 71 (0, 0)) (zK BK188) hb); have n2_ := am (Bb6 (by repeat (first | (with_reducible first | exact HB.out | apply Bb1 | apply Bb2 | apply Bb3 | refine Bb4 ?_ GE188.out) | exact HB.out)) hb); clear BK188; clear HB; have HO191 := n0_; have BK188 := n1_; have HB := n2_; clear n0_ n1_ n2_; clear hb ho5))
 go_ret
 exact ⟨_, zE, by (with_reducible repeat (first | apply Kd.R_alloc | apply Kd.R_drewN | apply Kd.R_drew)); exact Kd.R_mono HO191.out (fun _ hk => trivial), by repeat (first | (with_reducible first | exact HB.out | apply Bb1 | apply Bb2 | apply Bb3 | refine Bb4 ?_ GE188.out) | exact HB.out)⟩

/-! ### impl_Cube_109: function 109 -/
def impl_Cube_109.l0 : Nat → List (S71) → Int → Int → Int → Int → Int → Option (Int)
 | 0, _, _, _, _, _, _ => none
 | k + 1, x0, x7, x8, x193000, x193001, x193002 => if x8 < x7 then (if 0 ≤ x8 then (if x8 < (x0.length : Int) then (if (x193000 == ((rd_T71 x0 x8).f0) && (x193001 == ((rd_T71 x0 x8).f1) && (x193002 == ((rd_T71 x0 x8).f2)))) = true then (some x8) else (impl_Cube_109.l0 k x0 x7 (wrap64 (x8 + 1)) x193000 x193001 x193002)) else (none)) else (none)) else (some (-1))
def impl_Cube_109.f (k : Nat) (l0 : List (S71)) (a1_0 : Int) (a1_1 : Int) (a1_2 : Int) : Option (Int) := impl_Cube_109.l0 k l0 (l0.length : Int) 0 a1_0 a1_1 a1_2
theorem impl_Cube_109.mono_l : ∀ k, (∀ y0 y1 y2 y3 y4 y5, LeO (impl_Cube_109.l0 k y0 y1 y2 y3 y4 y5) (impl_Cube_109.l0 (k + 1) y0 y1 y2 y3 y4 y5))
 | 0 => fun _ _ _ _ _ _ r h => by simp [impl_Cube_109.l0] at h
 | k + 1 => by
  have ih0 := impl_Cube_109.mono_l k
  ·intro y0 y1 y2 y3 y4 y5
   unfold impl_Cube_109.l0
   repeat' first
   | (with_reducible exact ih0 _ _ _ _ _ _)
   | (with_reducible exact LeO.refl _)
   | (with_reducible exact LeO.none _)
   | (with_reducible refine LeO.ite ?_ ?_)
   | (with_reducible refine LeO.bind ?_ (fun _ => ?_))
   | exact ih0 _ _ _ _ _ _
   | exact LeO.none _
   | refine LeO.ite ?_ ?_
   | refine LeO.bind ?_ (fun _ => ?_)
theorem impl_Cube_109.mono : ∀ a0 a1 a2 a3 k, LeO (impl_Cube_109.f k a0 a1 a2 a3) (impl_Cube_109.f (k + 1) a0 a1 a2 a3) := by
 intro a0 a1 a2 a3 k
 have ih0 := impl_Cube_109.mono_l k
 unfold impl_Cube_109.f
 repeat' first
   | (with_reducible exact ih0 _ _ _ _ _ _)
   | (with_reducible exact LeO.refl _)
   | (with_reducible exact LeO.none _)
   | (with_reducible refine LeO.ite ?_ ?_)
   | (with_reducible refine LeO.bind ?_ (fun _ => ?_))
   | exact ih0 _ _ _ _ _ _
   | exact LeO.none _
   | refine LeO.ite ?_ ?_
   | refine LeO.bind ?_ (fun _ => ?_)
set_option maxHeartbeats 8000000 in
set_option maxRecDepth 100000 in
theorem impl_Cube_109.calls (k : Nat) (A0 : Option Addr) (c0 : Nat) (l0 : List (S71)) (a1_0 : Int) (a1_1 : Int) (a1_2 : Int) (r : Int) (w : World) (hr0 : Kd.C k71 w A0 l0.length l0) (hc0 : l0.length ≤ c0) (h : impl_Cube_109.f k l0 a1_0 a1_1 a1_2 = some r) :
  Calls Try.prog 109 #[.slice A0 l0.length c0, .agg #[.int .i64 a1_0, .int .i64 a1_1, .int .i64 a1_2]] w fun e w' => e = .returned (.int .i64 r) ∧ Below w.heap.size w w' := by
 have hu71 := Try.underlying71
 have HR0 := am hr0
 have HC0 := am hc0
 clear hr0 hc0
 have HB := am (Below.refl w.heap.size w)
 have H : (impl_Cube_109.l0 k l0 (l0.length : Int) 0 a1_0 a1_1 a1_2) = some r := h
 clear h
 have H' := am H
 clear H
 go_enter Try.func109, Try.ntmps109
 go_wp2_with (first | ((with_reducible refine gate_dst (N := 3) rfl ?_); refine box_event ?hg (N := 3) ?hd (cs := #[.int .i64 a1_0, .int .i64 a1_1, .int .i64 a1_2]) (t := 71) ?hr ?_; (case hd => rfl); (case hg => rfl); (case hr => first | (go_simp; done) | (go_simp; rfl)); intro gb192 hg w3 hbox hb; have n0_ := am (Bb6 zB hb); have n1_ := am (hbox); have n2_ := am ((by rw [hg]; exact (Bb5 zB) : w.heap.size ≤ gb192)); have n3_ := n2_; clear HB; have HB := n0_; have BK192 := n1_; have GW192 := n2_; have GE192 := n3_; clear n0_ n1_ n2_ n3_; clear hb hbox hg))
 repeat (go_quiet (first | ((with_reducible refine gate_dst (N := 3) rfl ?_); refine box_event ?hg (N := 3) ?hd (cs := #[.int .i64 a1_0, .int .i64 a1_1, .int .i64 a1_2]) (t := 71) ?hr ?_; (case hd => rfl); (case hg => rfl); (case hr => first | (go_simp; done) | (go_simp; rfl)); intro gb192 hg w3 hbox hb; have n0_ := am (Bb6 zB hb); have n1_ := am (hbox); have n2_ := am ((by rw [hg]; exact (Bb5 zB) : w.heap.size ≤ gb192)); have n3_ := n2_; clear HB; have HB := n0_; have BK192 := n1_; have GW192 := n2_; have GE192 := n3_; clear n0_ n1_ n2_ n3_; clear hb hbox hg)); try go_wp2_with (first | ((with_reducible refine gate_dst (N := 3) rfl ?_); refine box_event ?hg (N := 3) ?hd (cs := #[.int .i64 a1_0, .int .i64 a1_1, .int .i64 a1_2]) (t := 71) ?hr ?_; (case hd => rfl); (case hg => rfl); (case hr => first | (go_simp; done) | (go_simp; rfl)); intro gb192 hg w3 hbox hb; have n0_ := am (Bb6 zB hb); have n1_ := am (hbox); have n2_ := am ((by rw [hg]; exact (Bb5 zB) : w.heap.size ≤ gb192)); have n3_ := n2_; clear HB; have HB := n0_; have BK192 := n1_; have GW192 := n2_; have GE192 := n3_; clear n0_ n1_ n2_ n3_; clear hb hbox hg)))
 go_loopg [8] k (fun kq v8 w' => ∃ (x8_1 : Int), v8 = .int .i64 x8_1 ∧ Aside0 (impl_Cube_109.l0 kq l0 (l0.length : Int) x8_1 a1_0 a1_1 a1_2 = some r) ∧ Aside0 (kq ≤ k) ∧ Aside0 (w'.heap[gb192]? = some (.cells #[.int .i64 a1_0, .int .i64 a1_1, .int .i64 a1_2] 71 (0, 0))) ∧ Aside0 (Below w.heap.size w w'))
 case atStart => exact ⟨(0), zS, H', ⟨Nat.le_refl _⟩, ⟨zK BK192⟩, ⟨by repeat (first | (with_reducible first | exact HB.out | apply Bb1 | apply Bb2 | apply Bb3 | refine Bb4 ?_ GE192.out) | exact HB.out)⟩⟩
 case round =>
  clear H'
  try clear c1
  try clear p2
  obtain ⟨x8_1, rfl, HA, HK1, BK192, HB⟩ := hrel
  cases gk with
  | zero => exact absurd HA.out (by simp [impl_Cube_109.l0])
  | succ k1 =>
   have H := HA.out
   clear HA
   simp only [impl_Cube_109.l0] at H
   by_cases c4 : x8_1 < (l0.length : Int)
   rotate_left
   ·rw [if_neg c4] at H
    have c4b0 : decide (x8_1 < (l0.length : Int)) = false := decide_eq_false c4
    clear c4
    obtain rfl := oi H
    go_wp2
    repeat (go_quiet (fail); try go_wp2)
    go_ret
    exact ⟨zE, by repeat (first | (with_reducible first | exact HB.out | apply Bb1 | apply Bb2 | apply Bb3 | refine Bb4 ?_ GE192.out) | exact HB.out)⟩
   rw [if_pos c4] at H
   have c4b0 : decide (x8_1 < (l0.length : Int)) = true := decide_eq_true c4
   clear c4
   by_cases c5 : 0 ≤ x8_1
   rotate_left
   ·rw [if_neg c5] at H
    exact absurd H (by simp)
   rw [if_pos c5] at H
   have c5b0 : decide (0 ≤ x8_1) = true := decide_eq_true c5
   clear c5
   by_cases c6 : x8_1 < (l0.length : Int)
   rotate_left
   ·rw [if_neg c6] at H
    exact absurd H (by simp)
   rw [if_pos c6] at H
   have c6b0 : decide (x8_1 < (l0.length : Int)) = true := decide_eq_true c6
   clear c6
   by_cases c7 : (a1_0 == ((rd_T71 l0 x8_1).f0) && (a1_1 == ((rd_T71 l0 x8_1).f1) && (a1_2 == ((rd_T71 l0 x8_1).f2)))) = true
   ·rw [if_pos c7] at H
    have c7b0 : (a1_0 == ((rd_T71 l0 x8_1).f0) && (a1_1 == ((rd_T71 l0 x8_1).f1) && (a1_2 == ((rd_T71 l0 x8_1).f2)))) = true := c7
    (try (have c7b1 : decide (a1_0 = ((rd_T71 l0 x8_1).f0) && (a1_1 == ((rd_T71 l0 x8_1).f1) && (a1_2 == ((rd_T71 l0 x8_1).f2)))) = true := by simpa using c7))
    (try (have c7b2 : (a1_0 == ((rd_T71 l0 x8_1).f0) && (a1_1 == ((rd_T71 l0 x8_1).f1) && (a1_2 == ((rd_T71 l0 x8_1).f2)))) = true := by simpa using c7))
    clear c7
    obtain rfl := oi H
    have hcz8_0 : wr.cell? ⟨gb192, 0, none⟩ = some (.int .i64 a1_0) := (kc BK192.out 0).trans rfl
    have hcz8_1 : wr.cell? ⟨gb192, 1, none⟩ = some (.int .i64 a1_1) := (kc BK192.out 1).trans rfl
    have hcz8_2 : wr.cell? ⟨gb192, 2, none⟩ = some (.int .i64 a1_2) := (kc BK192.out 2).trans rfl
    have hfz8_0 := kf BK192.out 0
    have hfz8_1 := kf BK192.out 1
    have hfz8_2 := kf BK192.out 2
    have p193 : 0 ≤ (x8_1 : Int) := zD
    have q193 : x8_1 < (l0.length : Int) := zD
    obtain ⟨ad193, e193, hx193_0, hx193_1, hx193_2⟩ := at_T71 HR0.out x8_1 p193 q193
    cases e193
    replace hx193_0 := pc HB.out hx193_0
    replace hx193_1 := pc HB.out hx193_1
    replace hx193_2 := pc HB.out hx193_2
    replace p193 := eq_true p193
    replace q193 := eq_true q193
    go_wp2
    repeat (go_quiet (fail); try go_wp2)
    go_ret
    exact ⟨zE, by repeat (first | (with_reducible first | exact HB.out | apply Bb1 | apply Bb2 | apply Bb3 | refine Bb4 ?_ GE192.out) | exact HB.out)⟩
   rw [if_neg c7] at H
   have c7b0 : (a1_0 == ((rd_T71 l0 x8_1).f0) && (a1_1 == ((rd_T71 l0 x8_1).f1) && (a1_2 == ((rd_T71 l0 x8_1).f2)))) = false := by simpa using c7
   (try (have c7b1 : decide (a1_0 = ((rd_T71 l0 x8_1).f0) && (a1_1 == ((rd_T71 l0 x8_1).f1) && (a1_2 == ((rd_T71 l0 x8_1).f2)))) = false := by simpa using c7))
   (try (have c7b2 : (a1_0 == ((rd_T71 l0 x8_1).f0) && (a1_1 == ((rd_T71 l0 x8_1).f1) && (a1_2 == ((rd_T71 l0 x8_1).f2)))) = false := by simpa using c7))
   (try (have c7b3 : ¬ (a1_0 = ((rd_T71 l0 x8_1).f0) && (a1_1 == ((rd_T71 l0 x8_1).f1) && (a1_2 == ((rd_T71 l0 x8_1).f2)))) := by simpa using c7))
   clear c7
   have H' := am H
   clear H
   have hcz9_0 : wr.cell? ⟨gb192, 0, none⟩ = some (.int .i64 a1_0) := (kc BK192.out 0).trans rfl
   have hcz9_1 : wr.cell? ⟨gb192, 1, none⟩ = some (.int .i64 a1_1) := (kc BK192.out 1).trans rfl
   have hcz9_2 : wr.cell? ⟨gb192, 2, none⟩ = some (.int .i64 a1_2) := (kc BK192.out 2).trans rfl
   have hfz9_0 := kf BK192.out 0
   have hfz9_1 := kf BK192.out 1
   have hfz9_2 := kf BK192.out 2
   have p193 : 0 ≤ (x8_1 : Int) := zD
   have q193 : x8_1 < (l0.length : Int) := zD
   obtain ⟨ad193, e193, hx193_0, hx193_1, hx193_2⟩ := at_T71 HR0.out x8_1 p193 q193
   cases e193
   replace hx193_0 := pc HB.out hx193_0
   replace hx193_1 := pc HB.out hx193_1
   replace hx193_2 := pc HB.out hx193_2
   replace p193 := eq_true p193
   replace q193 := eq_true q193
   go_wp2
   repeat (go_quiet (fail); try go_wp2)
   go_roundg k1
   case measure => have := HK1.out; omega
   case rel => exact ⟨(wrap64 (x8_1 + 1)), zS, H', ⟨by have := HK1.out; omega⟩, ⟨zK BK192⟩, ⟨by repeat (first | (with_reducible first | exact HB.out | apply Bb1 | apply Bb2 | apply Bb3 | refine Bb4 ?_ GE192.out) | exact HB.out)⟩⟩

/-! ### impl_Cube_97: function 97 -/
def impl_Cube_97.f (k : Nat) (l0 : List (S71)) (a1_0 : Int) (a1_1 : Int) (a1_2 : Int) : Option (Bool) := (impl_Cube_109.f k l0 a1_0 a1_1 a1_2).bind fun t195 => (some (decide (t195 ≥ 0)))
theorem impl_Cube_97.mono : ∀ a0 a1 a2 a3 k, LeO (impl_Cube_97.f k a0 a1 a2 a3) (impl_Cube_97.f (k + 1) a0 a1 a2 a3) := by
 intro a0 a1 a2 a3 k
 unfold impl_Cube_97.f
 repeat' first
   | (with_reducible exact impl_Cube_109.mono _ _ _ _ _)
   | (with_reducible exact LeO.refl _)
   | (with_reducible exact LeO.none _)
   | (with_reducible refine LeO.ite ?_ ?_)
   | (with_reducible refine LeO.bind ?_ (fun _ => ?_))
   | exact impl_Cube_109.mono _ _ _ _ _
   | exact LeO.none _
   | refine LeO.ite ?_ ?_
   | refine LeO.bind ?_ (fun _ => ?_)
set_option maxHeartbeats 8000000 in
set_option maxRecDepth 100000 in
theorem impl_Cube_97.calls (k : Nat) (A0 : Option Addr) (c0 : Nat) (l0 : List (S71)) (a1_0 : Int) (a1_1 : Int) (a1_2 : Int) (r : Bool) (w : World) (hr0 : Kd.C k71 w A0 l0.length l0) (hc0 : l0.length ≤ c0) (h : impl_Cube_97.f k l0 a1_0 a1_1 a1_2 = some r) :
  Calls Try.prog 97 #[.slice A0 l0.length c0, .agg #[.int .i64 a1_0, .int .i64 a1_1, .int .i64 a1_2]] w fun e w' => e = .returned (.bool r) ∧ Below w.heap.size w w' := by
 have hu71 := Try.underlying71
 have HR0 := am hr0
 have HC0 := am hc0
 clear hr0 hc0
 have HB := am (Below.refl w.heap.size w)
 have H : ((impl_Cube_109.f k l0 a1_0 a1_1 a1_2).bind fun t195 => (some (decide (t195 ≥ 0)))) = some r := h
 clear h
 replace H := ob H
 obtain ⟨t195, A30, H⟩ := H
 replace H : (some (decide (t195 ≥ 0))) = some r := H
 have A3 := am A30
 clear A30
 obtain rfl := oi H
 go_enter Try.func97, Try.ntmps97
 go_wp2_with (first | ((with_reducible refine gate_dst (N := 3) rfl ?_); refine box_event ?hg (N := 3) ?hd (cs := #[.int .i64 a1_0, .int .i64 a1_1, .int .i64 a1_2]) (t := 71) ?hr ?_; (case hd => rfl); (case hg => rfl); (case hr => first | (go_simp; done) | (go_simp; rfl)); intro gb194 hg w4 hbox hb; have n0_ := am (Bb6 zB hb); have n1_ := am (hbox); have n2_ := am ((by rw [hg]; exact (Bb5 zB) : w.heap.size ≤ gb194)); have n3_ := n2_; clear HB; have HB := n0_; have BK194 := n1_; have GW194 := n2_; have GE194 := n3_; clear n0_ n1_ n2_ n3_; clear hb hbox hg; have hcz5_0 : w4.cell? ⟨gb194, 0, none⟩ = some (.int .i64 a1_0) := (kc BK194.out 0).trans rfl; have hcz5_1 : w4.cell? ⟨gb194, 1, none⟩ = some (.int .i64 a1_1) := (kc BK194.out 1).trans rfl; have hcz5_2 : w4.cell? ⟨gb194, 2, none⟩ = some (.int .i64 a1_2) := (kc BK194.out 2).trans rfl; have hfz5_0 := kf BK194.out 0; have hfz5_1 := kf BK194.out 1; have hfz5_2 := kf BK194.out 2) | ((with_reducible refine gate_callee (f := 109) rfl ?_); refine goesL_ (some 7) rfl rfl Try.func109 (by kernel_rfl) rfl #[.slice A0 l0.length c0, .agg #[.int .i64 a1_0, .int .i64 a1_1, .int .i64 a1_2]] rfl zL ?_; (with_reducible refine (impl_Cube_109.calls k _ _ l0 a1_0 a1_1 a1_2 t195 _ ?side1 ?side2 A3.out).mono ?_); (case side1 => repeat (first | exact (Kd.C_below HR0.out HB.out) | (with_reducible refine Kd.C_alloc ?_ _) | (with_reducible refine Kd.C_drewN ?_ _) | (with_reducible refine Kd.C_drew ?_))); (case side2 => exact HC0.out); rintro e w6 ⟨rfl, hb⟩; refine ⟨_, rfl, ?_⟩; have n0_ := am (Bk4 (g := gb194) (o := .cells #[.int .i64 a1_0, .int .i64 a1_1, .int .i64 a1_2] 71 (0, 0)) (zK BK194) hb); have n1_ := am (Bb6 (by repeat (first | (with_reducible first | exact HB.out | apply Bb1 | apply Bb2 | apply Bb3 | refine Bb4 ?_ GE194.out) | exact HB.out)) hb); clear BK194; clear HB; have BK194 := n0_; have HB := n1_; clear n0_ n1_; (try clear hb); (try clear hb2); (try clear hk); (try clear hi)))
 go_ret
 exact ⟨zE, by repeat (first | (with_reducible first | exact HB.out | apply Bb1 | apply Bb2 | apply Bb3 | refine Bb4 ?_ GE194.out) | exact HB.out)⟩

end Go.Proofs.Ytjgnlakgojookaa.Q
