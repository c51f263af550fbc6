/- Written by a program of this session (wip/tools/pp.py) out of the translation, with the kit's printer. -/
import Derived.Test.YtcgnnfaemjjljaaDoorQ0
import Derived.Test.YtcgnnfaemjjljaaDoorQ29
import Derived.Test.YtcgnnfaemjjljaaDoorQ1
namespace Go.Proofs.YtcgnnfaemjjljaaDoor.Q
open Go.RowKit Go.Proofs.YtcgnnfaemjjljaaDoorW.PrintWords Go.Proofs.YtcgnnfaemjjljaaDoorW.PrintLast Go.Proofs.YtcgnnfaemjjljaaDoorW.PrintMore
attribute [local go_sem] max2_int min2_int max_two min_two max_three min_three max_four min_four
set_option linter.unusedVariables false
set_option linter.unusedSimpArgs false

attribute [local go_sem high] eqA42
/-! ### spec_l23Word: function 51 -/
abbrev spec_l23Word.m0 : Array Bool := #[false, false, false, false, false, false, false, false, false, false, false, false, false, false, false, false, false, false]
abbrev spec_l23Word.m1 : Array Bool := #[false, false, false, false, false, false, false, false, false, false, false, false, false, false]
abbrev spec_l23Word.m2 : Array Bool := #[true, false, false, false, false, false, false, false, false, false, false, false, false, false, false, false, false, false]
abbrev spec_l23Word.m3 : Array Bool := #[true, false, false, false, false, false, false, false, false, false, false, false, false, false]
abbrev spec_l23Word.m4 : Array Bool := #[true, false, true, false, false, false, false, false, false, false, false, false, false, false, false, false, false, false]
abbrev spec_l23Word.m5 : Array Bool := #[true, false, true, true, false, false, false, false, false, false, false, false, false, false, false, false, false, false]
abbrev spec_l23Word.m6 : Array Bool := #[true, false, true, true, true, false, false, false, false, false, false, false, false, false, false, false, false, false]
abbrev spec_l23Word.m7 : Array Bool := #[true, false, true, true, true, true, false, false, false, false, false, false, false, false, false, false, false, false]
abbrev spec_l23Word.m8 : Array Bool := #[true, false, true, true, true, true, false, false, true, false, false, false, false, false, false, false, false, false]
abbrev spec_l23Word.m9 : Array Bool := #[true, false, true, true, true, true, false, false, true, false, true, false, false, false, false, false, false, false]
abbrev spec_l23Word.m10 : Array Bool := #[true, false, true, true, true, true, false, false, true, false, true, true, false, false, false, false, false, false]
abbrev spec_l23Word.m11 : Array Bool := #[true, false, true, true, true, true, false, false, true, false, true, true, true, false, false, false, false, false]
abbrev spec_l23Word.m12 : Array Bool := #[true, false, true, true, true, true, false, false, true, false, true, true, true, true, false, false, false, false]
abbrev spec_l23Word.m13 : Array Bool := #[true, true, false, false, false, false, false, false, false, false, false, false, false, false]
abbrev spec_l23Word.m14 : Array Bool := #[true, true, true, false, false, false, false, false, false, false, false, false, false, false]
abbrev spec_l23Word.m15 : Array Bool := #[true, true, true, false, true, false, false, false, false, false, false, false, false, false]
abbrev spec_l23Word.m16 : Array Bool := #[true, true, true, false, true, true, false, false, false, false, false, false, false, false]
abbrev spec_l23Word.m17 : Array Bool := #[true, true, true, false, true, true, true, false, false, false, false, false, false, false]
abbrev spec_l23Word.m18 : Array Bool := #[true, true, true, false, true, true, true, true, false, false, false, false, false, false]
abbrev spec_l23Word.m19 : Array Bool := #[true, true, true, false, true, true, true, true, true, false, false, false, false, false]
abbrev spec_l23Word.m20 : Array Bool := #[true, true, true, true, true, true, false, false, true, false, true, true, true, true, false, false, false, false]
abbrev spec_l23Word.m21 : Array Bool := #[true, true, true, true, true, true, true, false, true, false, true, true, true, true, false, false, false, false]
abbrev spec_l23Word.m22 : Array Bool := #[true, true, true, true, true, true, true, true, true, false, false, false, false, false]
abbrev spec_l23Word.m23 : Array Bool := #[true, true, true, true, true, true, true, true, true, false, true, true, true, true, false, false, false, false]
abbrev spec_l23Word.m24 : Array Bool := #[true, true, true, true, true, true, true, true, true, true, false, false, false, false]
abbrev spec_l23Word.m25 : Array Bool := #[true, true, true, true, true, true, true, true, true, true, false, true, false, false]
abbrev spec_l23Word.m26 : Array Bool := #[true, true, true, true, true, true, true, true, true, true, true, false, false, false]
abbrev spec_l23Word.m27 : Array Bool := #[true, true, true, true, true, true, true, true, true, true, true, true, false, false]
abbrev spec_l23Word.m28 : Array Bool := #[true, true, true, true, true, true, true, true, true, true, true, true, true, false]
abbrev spec_l23Word.m29 : Array Bool := #[true, true, true, true, true, true, true, true, true, true, true, true, true, true, false, false, false, false]
abbrev spec_l23Word.m30 : Array Bool := #[true, true, true, true, true, true, true, true, true, true, true, true, true, true, true, false, false, false]
abbrev spec_l23Word.m31 : Array Bool := #[true, true, true, true, true, true, true, true, true, true, true, true, true, true, true, true, false, false]
abbrev spec_l23Word.m32 : Array Bool := #[true, true, true, true, true, true, true, true, true, true, true, true, true, true, true, true, true, false]
abbrev spec_l23Word.m33 : Array Bool := #[true, true, true, true, true, true, true, true, true, true, true, true, true, true, true, true, true, true]
abbrev spec_l23Word.m34 : Array Bool := #[true, true, true, true, true, true, true, true, true, true, true, true, true, true]
def spec_l23Word.l0 : Nat → List (S42) → List Int → Int → Int → Int → Int → Int → Option (ByteArray)
 | 0, _, _, _, _, _, _, _ => none
 | k + 1, x0, x3, x6, x395000, x395001, x396000, x396001 => if 0 ≤ x6 then (if x6 < 4 then (if x3.length < 140737488355328 then ((some (x3 ++ [bt (⟨#[114, 100, 108, 117]⟩ : ByteArray) x6] : List Int)).bind fun y396 => ((some (([(⟨1, 0⟩ : S42), (⟨0, 1⟩ : S42), (⟨(-1), 0⟩ : S42), (⟨0, (-1)⟩ : S42)] : List (S42)) : List (S42))).bind fun y399 => (if x6 < (y399.length : Int) then (if ((wrap64 (x396000 + ((rd_T42 y399 x6).f0))) == x395000 && ((wrap64 (x396001 + ((rd_T42 y399 x6).f1))) == x395001)) = true then (some (strOfNums y396)) else ((some (([(⟨wrap64 (x396000 + ((rd_T42 y399 x6).f0)), wrap64 ((wrap64 (x396001 + ((rd_T42 y399 x6).f1))) - 1)⟩ : S42), (⟨wrap64 (x396000 + ((rd_T42 y399 x6).f0)), wrap64 (x396001 + ((rd_T42 y399 x6).f1))⟩ : S42), (⟨wrap64 ((wrap64 (x396000 + ((rd_T42 y399 x6).f0))) - 1), wrap64 (x396001 + ((rd_T42 y399 x6).f1))⟩ : S42), (⟨wrap64 ((wrap64 (x396000 + ((rd_T42 y399 x6).f0))) - 1), wrap64 ((wrap64 (x396001 + ((rd_T42 y399 x6).f1))) - 1)⟩ : S42)] : List (S42)) : List (S42))).bind fun y404 => (if x6 < (y404.length : Int) then (if 0 ≤ (Int.tmod (wrap64 (x6 + 1)) 4) then (if (Int.tmod (wrap64 (x6 + 1)) 4) < (y404.length : Int) then ((spec_l02Index.f k x0 ((rd_T42 y404 x6).f0) ((rd_T42 y404 x6).f1)).bind fun t411 => (if t411 ≥ 0 then (spec_l23Word.l0 k x0 y396 (Int.tmod (wrap64 (x6 + 3)) 4) x395000 x395001 (wrap64 (x396000 + ((rd_T42 y399 x6).f0))) (wrap64 (x396001 + ((rd_T42 y399 x6).f1)))) else ((spec_l02Index.f k x0 ((rd_T42 y404 (Int.tmod (wrap64 (x6 + 1)) 4)).f0) ((rd_T42 y404 (Int.tmod (wrap64 (x6 + 1)) 4)).f1)).bind fun t412 => (if t412 < 0 then (spec_l23Word.l0 k x0 y396 (Int.tmod (wrap64 (x6 + 1)) 4) x395000 x395001 (wrap64 (x396000 + ((rd_T42 y399 x6).f0))) (wrap64 (x396001 + ((rd_T42 y399 x6).f1)))) else (spec_l23Word.l0 k x0 y396 x6 x395000 x395001 (wrap64 (x396000 + ((rd_T42 y399 x6).f0))) (wrap64 (x396001 + ((rd_T42 y399 x6).f1)))))))) else (none)) else (none)) else (none)))) else (none)))) else (none)) else (none)) else (none)
def spec_l23Word.f (k : Nat) (l0 : List (S42)) : Option (ByteArray) := if 0 < (l0.length : Int) then (spec_l23Word.l0 k l0 (([] : List Int)) 0 ((rd_T42 l0 0).f0) ((rd_T42 l0 0).f1) ((rd_T42 l0 0).f0) ((rd_T42 l0 0).f1)) else (none)
theorem spec_l23Word.mono_l : ∀ k, (∀ y0 y1 y2 y3 y4 y5 y6, LeO (spec_l23Word.l0 k y0 y1 y2 y3 y4 y5 y6) (spec_l23Word.l0 (k + 1) y0 y1 y2 y3 y4 y5 y6))
 | 0 => fun _ _ _ _ _ _ _ r h => by simp [spec_l23Word.l0] at h
 | k + 1 => by
  have ih0 := spec_l23Word.mono_l k
  ·intro y0 y1 y2 y3 y4 y5 y6
   unfold spec_l23Word.l0
   repeat' first
   | (with_reducible exact ih0 _ _ _ _ _ _ _)
   | (with_reducible exact spec_l02Index.mono _ _ _ _)
   | (with_reducible exact LeO.refl _)
   | (with_reducible exact LeO.none _)
   | (with_reducible refine LeO.ite ?_ ?_)
   | (with_reducible refine LeO.bind ?_ (fun _ => ?_))
   | exact ih0 _ _ _ _ _ _ _
   | exact spec_l02Index.mono _ _ _ _
   | exact LeO.none _
   | refine LeO.ite ?_ ?_
   | refine LeO.bind ?_ (fun _ => ?_)
theorem spec_l23Word.mono : ∀ a0 k, LeO (spec_l23Word.f k a0) (spec_l23Word.f (k + 1) a0) := by
 intro a0 k
 have ih0 := spec_l23Word.mono_l k
 unfold spec_l23Word.f
 repeat' first
   | (with_reducible exact ih0 _ _ _ _ _ _ _)
   | (with_reducible exact spec_l02Index.mono _ _ _ _)
   | (with_reducible exact LeO.refl _)
   | (with_reducible exact LeO.none _)
   | (with_reducible refine LeO.ite ?_ ?_)
   | (with_reducible refine LeO.bind ?_ (fun _ => ?_))
   | exact ih0 _ _ _ _ _ _ _
   | exact spec_l02Index.mono _ _ _ _
   | exact LeO.none _
   | refine LeO.ite ?_ ?_
   | refine LeO.bind ?_ (fun _ => ?_)
def spec_l23Word.T7 : Bool × List (List Nat × List Nat) := (true, [([], []), ([0], [0]), ([], []), ([], []), ([2, 3], [2, 3]), ([4], [4]), ([5], [5]), ([1, 6], [1, 6]), ([], []), ([8], [8]), ([], []), ([], []), ([10, 11], [10, 11]), ([12], [12]), ([13], [13]), ([9, 14], [9, 14]), ([7, 15], [7, 15]), ([16, 0, 1, 2, 3, 4, 5, 6, 7, 8, 9, 10, 11, 12, 13, 14, 15, 16], [16])])
def spec_l23Word.B7 : List Nat := [0, 1, 0, 0, 12, 28, 60, 127, 0, 256, 0, 0, 3072, 7168, 15360, 32512, 65535, 131071]
theorem spec_l23Word.tab7 : rtab .any (opsOf Tryd.f51 7) = spec_l23Word.T7 := by kernel_rfl
theorem spec_l23Word.bits7 : waitsOk spec_l23Word.T7.2 spec_l23Word.B7 = true := by kernel_rfl
def spec_l23Word.T11 : Bool × List (List Nat × List Nat) := (true, [([], []), ([], []), ([0, 1], [0, 1]), ([2], [2]), ([], []), ([], []), ([5], [5]), ([6], [6]), ([4, 7], [4, 7]), ([8], [8]), ([], []), ([], []), ([10, 3, 0, 1, 2, 3, 10, 11], [3, 10]), ([11, 9, 12, 0, 1, 2, 3, 4, 5, 6, 7, 8, 9, 10, 11, 12], [9, 11])])
def spec_l23Word.B11 : List Nat := [0, 0, 3, 7, 0, 0, 32, 96, 240, 496, 0, 0, 3087, 8191]
theorem spec_l23Word.tab11 : rtab .any (opsOf Tryd.f51 11) = spec_l23Word.T11 := by kernel_rfl
theorem spec_l23Word.bits11 : waitsOk spec_l23Word.T11.2 spec_l23Word.B11 = true := by kernel_rfl
set_option maxHeartbeats 8000000 in
set_option maxRecDepth 100000 in
theorem spec_l23Word.calls (k : Nat) (A0 : Option Addr) (c0 : Nat) (l0 : List (S42)) (r : ByteArray) (w : World) (hr0 : Kd.C k42 w A0 l0.length l0) (hc0 : l0.length ≤ c0) (h : spec_l23Word.f k l0 = some r) :
  Calls Tryd.prog 51 #[.slice A0 l0.length c0] w fun e w' => e = .returned (.string r) ∧ Below w.heap.size w w' := by
 have hu42 := Tryd.underlying42
 have HR0 := am hr0
 have HC0 := am hc0
 clear hr0 hc0
 have HB := am (Below.refl w.heap.size w)
 have H : (if 0 < (l0.length : Int) then (spec_l23Word.l0 k l0 (([] : List Int)) 0 ((rd_T42 l0 0).f0) ((rd_T42 l0 0).f1) ((rd_T42 l0 0).f0) ((rd_T42 l0 0).f1)) else (none)) = some r := h
 clear h
 obtain ⟨y390, hy390⟩ : ∃ y_ : List Int, y_ = (([] : List Int)) := ⟨_, rfl⟩
 replace H : (if 0 < (l0.length : Int) then (spec_l23Word.l0 k l0 y390 0 ((rd_T42 l0 0).f0) ((rd_T42 l0 0).f1) ((rd_T42 l0 0).f0) ((rd_T42 l0 0).f1)) else (none)) = some r := by first | (rw [hy390]; with_reducible exact H) | (have H2_ := (Option.bind_some _ _).symm.trans H; rw [hy390]; with_reducible exact H2_) | (have H2_ := (Option.bind_some _ _).symm.trans H; with_reducible exact H2_) | with_reducible exact H | (rw [hy390]; exact H) | exact H
 have Ny390 := am hy390
 clear hy390
 by_cases c2 : 0 < (l0.length : Int)
 ·rw [if_pos c2] at H
  have c2b0 : decide (0 < (l0.length : Int)) = true := decide_eq_true c2
  have c2b1 : decide (0 < l0.length) = true := decide_eq_true (by omega)
  clear c2
  have H' := am H
  clear H
  go_enter Tryd.func51, Tryd.ntmps51
  go_wp2_with (first | ((with_reducible refine gate_dst (N := 11) rfl ?_); refine Kd.R_lit (Kd.int .u8) _ 5 ?hg (N := 11) ?hd (xs := ([] : List Int)) (inner := []) (ok := fun _ => True) (okp := fun _ => True) ?hr ?hp (fun _ hk => hk) trivial (Below.refl _ _) (Nat.le_refl _) (by simp) ?_; (case hd => rfl); (case hg => rfl); (case hr => first | (go_simp; done) | (go_simp; rfl)); (case hp => exact (Reps.none _ _)); intro v391 w3 ho4 hb hg_ hnew_; clear hg_ hnew_; (first | rw [← Ny390.out] at ho4 | (simp only [Int.reduceToNat] at ho4; rw [← Ny390.out] at ho4)); have n0_ := am (Kd.R_lower ho4 (b5 (by repeat (first | (with_reducible first | exact HB.out | apply b1 | apply b2 | apply b3) | exact HB.out)))); have n1_ := am (b6 (by repeat (first | (with_reducible first | exact HB.out | apply b1 | apply b2 | apply b3) | exact HB.out)) hb); clear HB; have HO392 := n0_; have HB := n1_; clear n0_ n1_; clear hb ho4; have p393 : 0 ≤ (0 : Int) := (by omega); have q393 : 0 < (l0.length : Int) := of_decide_eq_true (by first | (with_reducible assumption) | assumption); obtain ⟨ad393, e393, hx393_0, hx393_1⟩ := at_T42 HR0.out 0 p393 q393; cases e393; have qi393 : (0 < l0.length) = True := eq_true (by omega); (try rw [show ((0 : Int)).toNat = 0 from rfl] at hx393_0); (try rw [show 0 * 2 = 0 from rfl] at hx393_0); (try rw [Addr.add_zero'] at hx393_0); (try rw [show ((0 : Int)).toNat = 0 from rfl] at hx393_1); (try rw [show 0 * 2 = 0 from rfl] at hx393_1); (try rw [Addr.add_zero'] at hx393_1); replace hx393_0 := pc HB.out hx393_0; replace hx393_1 := pc HB.out hx393_1; replace p393 := eq_true p393; replace q393 := eq_true q393) | ((with_reducible refine gate_dst (N := 4) rfl ?_); refine box_event ?hg (N := 4) ?hd (cs := #[.int .i64 0, .int .i64 0]) (t := 42) ?hr ?_; (case hd => rfl); (case hg => rfl); (case hr => first | (go_simp; done) | (go_simp; rfl)); intro gb394 hg w5 hbox hb; have n0_ := am (Kd.R_below (by (with_reducible repeat (first | apply Kd.R_alloc | apply Kd.R_drewN | apply Kd.R_drew)); exact HO392.out) hb); have n1_ := am (b6 (by repeat (first | (with_reducible first | exact HB.out | apply b1 | apply b2 | apply b3) | exact HB.out)) hb); have n2_ := am (hbox); have n3_ := am ((by rw [hg]; exact (b5 (by repeat (first | (with_reducible first | exact HB.out | apply b1 | apply b2 | apply b3) | exact HB.out))) : w.heap.size ≤ gb394)); have n4_ := n3_; clear HO392; clear HB; have HO392 := n0_; have HB := n1_; have BK394 := n2_; have GW394 := n3_; have GE394 := n4_; clear n0_ n1_ n2_ n3_ n4_; clear hb hbox hg; have hcz6_0 : w5.cell? ⟨gb394, 0, none⟩ = some (.int .i64 0) := (kc BK394.out 0).trans rfl; have hcz6_1 : w5.cell? ⟨gb394, 1, none⟩ = some (.int .i64 0) := (kc BK394.out 1).trans rfl; have hfz6_0 := kf BK394.out 0; have hfz6_1 := kf BK394.out 1) | ((with_reducible refine gate_dst (N := 5) rfl ?_); refine box_event ?hg (N := 5) ?hd (cs := #[.int .i64 0, .int .i64 0]) (t := 42) ?hr ?_; (case hd => rfl); (case hg => rfl); (case hr => first | (go_simp; done) | (go_simp; rfl)); intro gb395 hg w7 hbox hb; have n0_ := am (Kd.R_below (by (with_reducible repeat (first | apply Kd.R_alloc | apply Kd.R_drewN | apply Kd.R_drew)); exact (Kd.R_mono (Kd.R_far (p := ⟨gb394, 1, none⟩) (Kd.R_far (p := ⟨gb394, 0, none⟩) (Kd.R_types HO392.out BK394.out (by decide)) (fun _ hk => hk.2) (.int .i64 ((rd_T42 l0 0).f0))) (fun _ hk => hk.2) (.int .i64 ((rd_T42 l0 0).f1))) (fun _ h_ => h_.1))) hb); have n1_ := am (k4 (g := gb394) (o := .cells #[.int .i64 ((rd_T42 l0 0).f0), .int .i64 ((rd_T42 l0 0).f1)] 42 (0, 0)) (by (with_reducible repeat (first | refine k2 ?_ _ | refine k3 ?_ | refine k1 ?_ _)); refine blk_put (cs := #[.int .i64 ((rd_T42 l0 0).f0), .int .i64 0]) ?_ 1 _ rfl; (with_reducible repeat (first | refine k2 ?_ _ | refine k3 ?_ | refine k1 ?_ _)); refine blk_put (cs := #[.int .i64 0, .int .i64 0]) ?_ 0 _ rfl; (with_reducible repeat (first | refine k2 ?_ _ | refine k3 ?_ | refine k1 ?_ _)); exact BK394.out) hb); have n2_ := am (b6 (by repeat (first | (with_reducible first | exact HB.out | apply b1 | apply b2 | apply b3 | refine b4 ?_ GE394.out) | exact HB.out)) hb); have n3_ := am (hbox); have n4_ := am ((by rw [hg]; exact (b5 (by repeat (first | (with_reducible first | exact HB.out | apply b1 | apply b2 | apply b3 | refine b4 ?_ GE394.out) | exact HB.out))) : w.heap.size ≤ gb395)); have n5_ := n4_; have n6_ := am ((by rw [hg]; exact nl (k5 (g := gb394) (o := .cells #[.int .i64 ((rd_T42 l0 0).f0), .int .i64 ((rd_T42 l0 0).f1)] 42 (0, 0)) (by (with_reducible repeat (first | refine k2 ?_ _ | refine k3 ?_ | refine k1 ?_ _)); refine blk_put (cs := #[.int .i64 ((rd_T42 l0 0).f0), .int .i64 0]) ?_ 1 _ rfl; (with_reducible repeat (first | refine k2 ?_ _ | refine k3 ?_ | refine k1 ?_ _)); refine blk_put (cs := #[.int .i64 0, .int .i64 0]) ?_ 0 _ rfl; (with_reducible repeat (first | refine k2 ?_ _ | refine k3 ?_ | refine k1 ?_ _)); exact BK394.out)) : gb394 ≠ gb395)); have n7_ := am ((by rw [hg]; exact ng (k5 (g := gb394) (o := .cells #[.int .i64 ((rd_T42 l0 0).f0), .int .i64 ((rd_T42 l0 0).f1)] 42 (0, 0)) (by (with_reducible repeat (first | refine k2 ?_ _ | refine k3 ?_ | refine k1 ?_ _)); refine blk_put (cs := #[.int .i64 ((rd_T42 l0 0).f0), .int .i64 0]) ?_ 1 _ rfl; (with_reducible repeat (first | refine k2 ?_ _ | refine k3 ?_ | refine k1 ?_ _)); refine blk_put (cs := #[.int .i64 0, .int .i64 0]) ?_ 0 _ rfl; (with_reducible repeat (first | refine k2 ?_ _ | refine k3 ?_ | refine k1 ?_ _)); exact BK394.out)) : gb395 ≠ gb394)); clear HO392; clear BK394; clear HB; have HO392 := n0_; have BK394 := n1_; have HB := n2_; have BK395 := n3_; have GW395 := n4_; have GE395 := n5_; have NB394_395 := n6_; have NB395_394 := n7_; clear n0_ n1_ n2_ n3_ n4_ n5_ n6_ n7_; clear hb hbox hg; have hnb8 := NB395_394.out; have hnc8 := NB394_395.out; have hcz9_0 : w7.cell? ⟨gb395, 0, none⟩ = some (.int .i64 0) := (kc BK395.out 0).trans rfl; have hcz9_1 : w7.cell? ⟨gb395, 1, none⟩ = some (.int .i64 0) := (kc BK395.out 1).trans rfl; have hfz9_0 := kf BK395.out 0; have hfz9_1 := kf BK395.out 1))
  go_loopg [3, 6] k (fun kq v3 v6 w' => ∃ (x3_1 : List Int) (x6_1 : Int) (x396000_1 : Int) (x396001_1 : Int), v6 = .int .i64 x6_1 ∧ Aside0 (spec_l23Word.l0 kq l0 x3_1 x6_1 ((rd_T42 l0 0).f0) ((rd_T42 l0 0).f1) x396000_1 x396001_1 = some r) ∧ Aside0 (kq ≤ k) ∧ Aside0 (Kd.R (Kd.int .u8) 5 w' w.heap.size (fun _ => True) v3 x3_1) ∧ Aside0 (w'.heap[gb394]? = some (.cells #[.int .i64 ((rd_T42 l0 0).f0), .int .i64 ((rd_T42 l0 0).f1)] 42 (0, 0))) ∧ Aside0 (w'.heap[gb395]? = some (.cells #[.int .i64 x396000_1, .int .i64 x396001_1] 42 (0, 0))) ∧ Aside0 (Below w.heap.size w w'))
  case atStart => exact ⟨(y390), (0), ((rd_T42 l0 0).f0), ((rd_T42 l0 0).f1), (by first | rfl | (simp; done) | (simp [*]; done)), H', ⟨Nat.le_refl _⟩, ⟨by (with_reducible repeat (first | apply Kd.R_alloc | apply Kd.R_drewN | apply Kd.R_drew)); exact Kd.R_mono (Kd.R_far (p := ⟨gb395, 1, none⟩) (Kd.R_far (p := ⟨gb395, 0, none⟩) (Kd.R_types HO392.out BK395.out (by decide)) (fun _ hk => hk.2) (.int .i64 ((rd_T42 l0 0).f0))) (fun _ hk => hk.2) (.int .i64 ((rd_T42 l0 0).f1))) (fun _ hk => trivial)⟩, ⟨by (with_reducible repeat (first | refine k2 ?_ _ | refine k3 ?_ | refine k1 ?_ _)); refine blk_far ?_ NB394_395.out _; (with_reducible repeat (first | refine k2 ?_ _ | refine k3 ?_ | refine k1 ?_ _)); refine blk_far ?_ NB394_395.out _; (with_reducible repeat (first | refine k2 ?_ _ | refine k3 ?_ | refine k1 ?_ _)); exact BK394.out⟩, ⟨by (with_reducible repeat (first | refine k2 ?_ _ | refine k3 ?_ | refine k1 ?_ _)); refine blk_put (cs := #[.int .i64 ((rd_T42 l0 0).f0), .int .i64 0]) ?_ 1 _ rfl; (with_reducible repeat (first | refine k2 ?_ _ | refine k3 ?_ | refine k1 ?_ _)); refine blk_put (cs := #[.int .i64 0, .int .i64 0]) ?_ 0 _ rfl; (with_reducible repeat (first | refine k2 ?_ _ | refine k3 ?_ | refine k1 ?_ _)); exact BK395.out⟩, ⟨by repeat (first | (with_reducible first | exact HB.out | apply b1 | apply b2 | apply b3 | refine b4 ?_ GE394.out | refine b4 ?_ GE395.out) | exact HB.out)⟩⟩
  case round =>
   clear H'
   try clear c2
   try clear c2b0
   try clear c2b1
   try clear p2
   try clear p3
   try clear q3
   try clear hx3
   try clear qi3
   try clear c5
   try clear c8
   try clear hcz6_0
   try clear hcz6_1
   try clear hcz9_0
   try clear hcz9_1
   try clear hfz6_0
   try clear hfz6_1
   try clear hfz9_0
   try clear hfz9_1
   try clear hx393_0
   try clear hx393_1
   try clear p393
   try clear q393
   obtain ⟨x3_1, x6_1, x396000_1, x396001_1, rfl, HA, HK1, HO_3, BK394, BK395, HB⟩ := hrel
   cases gk with
   | zero => exact absurd HA.out (by simp [spec_l23Word.l0])
   | succ k1 =>
    have H := HA.out
    clear HA
    simp only [spec_l23Word.l0] at H
    by_cases c10 : 0 ≤ x6_1
    ·rw [if_pos c10] at H
     have c10b0 : decide (0 ≤ x6_1) = true := decide_eq_true c10
     clear c10
     by_cases c11 : x6_1 < 4
     ·rw [if_pos c11] at H
      have c11b0 : decide (x6_1 < 4) = true := decide_eq_true c11
      clear c11
      by_cases c13 : x3_1.length < 140737488355328
      ·rw [if_pos c13] at H
       have LMc13 := am c13
       clear c13
       obtain ⟨y396, hy396⟩ : ∃ y_ : List Int, y_ = (x3_1 ++ [bt (⟨#[114, 100, 108, 117]⟩ : ByteArray) x6_1]) := ⟨_, rfl⟩
       replace H : ((some (([(⟨1, 0⟩ : S42), (⟨0, 1⟩ : S42), (⟨(-1), 0⟩ : S42), (⟨0, (-1)⟩ : S42)] : List (S42)) : List (S42))).bind fun y399 => (if x6_1 < (y399.length : Int) then (if ((wrap64 (x396000_1 + ((rd_T42 y399 x6_1).f0))) == ((rd_T42 l0 0).f0) && ((wrap64 (x396001_1 + ((rd_T42 y399 x6_1).f1))) == ((rd_T42 l0 0).f1))) = true then (some (strOfNums y396)) else ((some (([(⟨wrap64 (x396000_1 + ((rd_T42 y399 x6_1).f0)), wrap64 ((wrap64 (x396001_1 + ((rd_T42 y399 x6_1).f1))) - 1)⟩ : S42), (⟨wrap64 (x396000_1 + ((rd_T42 y399 x6_1).f0)), wrap64 (x396001_1 + ((rd_T42 y399 x6_1).f1))⟩ : S42), (⟨wrap64 ((wrap64 (x396000_1 + ((rd_T42 y399 x6_1).f0))) - 1), wrap64 (x396001_1 + ((rd_T42 y399 x6_1).f1))⟩ : S42), (⟨wrap64 ((wrap64 (x396000_1 + ((rd_T42 y399 x6_1).f0))) - 1), wrap64 ((wrap64 (x396001_1 + ((rd_T42 y399 x6_1).f1))) - 1)⟩ : S42)] : List (S42)) : List (S42))).bind fun y404 => (if x6_1 < (y404.length : Int) then (if 0 ≤ (Int.tmod (wrap64 (x6_1 + 1)) 4) then (if (Int.tmod (wrap64 (x6_1 + 1)) 4) < (y404.length : Int) then ((spec_l02Index.f k1 l0 ((rd_T42 y404 x6_1).f0) ((rd_T42 y404 x6_1).f1)).bind fun t411 => (if t411 ≥ 0 then (spec_l23Word.l0 k1 l0 y396 (Int.tmod (wrap64 (x6_1 + 3)) 4) ((rd_T42 l0 0).f0) ((rd_T42 l0 0).f1) (wrap64 (x396000_1 + ((rd_T42 y399 x6_1).f0))) (wrap64 (x396001_1 + ((rd_T42 y399 x6_1).f1)))) else ((spec_l02Index.f k1 l0 ((rd_T42 y404 (Int.tmod (wrap64 (x6_1 + 1)) 4)).f0) ((rd_T42 y404 (Int.tmod (wrap64 (x6_1 + 1)) 4)).f1)).bind fun t412 => (if t412 < 0 then (spec_l23Word.l0 k1 l0 y396 (Int.tmod (wrap64 (x6_1 + 1)) 4) ((rd_T42 l0 0).f0) ((rd_T42 l0 0).f1) (wrap64 (x396000_1 + ((rd_T42 y399 x6_1).f0))) (wrap64 (x396001_1 + ((rd_T42 y399 x6_1).f1)))) else (spec_l23Word.l0 k1 l0 y396 x6_1 ((rd_T42 l0 0).f0) ((rd_T42 l0 0).f1) (wrap64 (x396000_1 + ((rd_T42 y399 x6_1).f0))) (wrap64 (x396001_1 + ((rd_T42 y399 x6_1).f1)))))))) else (none)) else (none)) else (none)))) else (none))) = some r := by first | (rw [hy396]; with_reducible exact H) | (have H2_ := (Option.bind_some _ _).symm.trans H; rw [hy396]; with_reducible exact H2_) | (have H2_ := (Option.bind_some _ _).symm.trans H; with_reducible exact H2_) | with_reducible exact H | (rw [hy396]; exact H) | exact H
       have Ny396 := am hy396
       clear hy396
       obtain ⟨y399, hy399⟩ : ∃ y_ : List (S42), y_ = (([(⟨1, 0⟩ : S42), (⟨0, 1⟩ : S42), (⟨(-1), 0⟩ : S42), (⟨0, (-1)⟩ : S42)] : List (S42))) := ⟨_, rfl⟩
       replace H : (if x6_1 < (y399.length : Int) then (if ((wrap64 (x396000_1 + ((rd_T42 y399 x6_1).f0))) == ((rd_T42 l0 0).f0) && ((wrap64 (x396001_1 + ((rd_T42 y399 x6_1).f1))) == ((rd_T42 l0 0).f1))) = true then (some (strOfNums y396)) else ((some (([(⟨wrap64 (x396000_1 + ((rd_T42 y399 x6_1).f0)), wrap64 ((wrap64 (x396001_1 + ((rd_T42 y399 x6_1).f1))) - 1)⟩ : S42), (⟨wrap64 (x396000_1 + ((rd_T42 y399 x6_1).f0)), wrap64 (x396001_1 + ((rd_T42 y399 x6_1).f1))⟩ : S42), (⟨wrap64 ((wrap64 (x396000_1 + ((rd_T42 y399 x6_1).f0))) - 1), wrap64 (x396001_1 + ((rd_T42 y399 x6_1).f1))⟩ : S42), (⟨wrap64 ((wrap64 (x396000_1 + ((rd_T42 y399 x6_1).f0))) - 1), wrap64 ((wrap64 (x396001_1 + ((rd_T42 y399 x6_1).f1))) - 1)⟩ : S42)] : List (S42)) : List (S42))).bind fun y404 => (if x6_1 < (y404.length : Int) then (if 0 ≤ (Int.tmod (wrap64 (x6_1 + 1)) 4) then (if (Int.tmod (wrap64 (x6_1 + 1)) 4) < (y404.length : Int) then ((spec_l02Index.f k1 l0 ((rd_T42 y404 x6_1).f0) ((rd_T42 y404 x6_1).f1)).bind fun t411 => (if t411 ≥ 0 then (spec_l23Word.l0 k1 l0 y396 (Int.tmod (wrap64 (x6_1 + 3)) 4) ((rd_T42 l0 0).f0) ((rd_T42 l0 0).f1) (wrap64 (x396000_1 + ((rd_T42 y399 x6_1).f0))) (wrap64 (x396001_1 + ((rd_T42 y399 x6_1).f1)))) else ((spec_l02Index.f k1 l0 ((rd_T42 y404 (Int.tmod (wrap64 (x6_1 + 1)) 4)).f0) ((rd_T42 y404 (Int.tmod (wrap64 (x6_1 + 1)) 4)).f1)).bind fun t412 => (if t412 < 0 then (spec_l23Word.l0 k1 l0 y396 (Int.tmod (wrap64 (x6_1 + 1)) 4) ((rd_T42 l0 0).f0) ((rd_T42 l0 0).f1) (wrap64 (x396000_1 + ((rd_T42 y399 x6_1).f0))) (wrap64 (x396001_1 + ((rd_T42 y399 x6_1).f1)))) else (spec_l23Word.l0 k1 l0 y396 x6_1 ((rd_T42 l0 0).f0) ((rd_T42 l0 0).f1) (wrap64 (x396000_1 + ((rd_T42 y399 x6_1).f0))) (wrap64 (x396001_1 + ((rd_T42 y399 x6_1).f1)))))))) else (none)) else (none)) else (none)))) else (none)) = some r := by first | (rw [hy399]; with_reducible exact H) | (have H2_ := (Option.bind_some _ _).symm.trans H; rw [hy399]; with_reducible exact H2_) | (have H2_ := (Option.bind_some _ _).symm.trans H; with_reducible exact H2_) | with_reducible exact H | (rw [hy399]; exact H) | exact H
       have Ny399 := am hy399
       clear hy399
       by_cases c14 : x6_1 < (y399.length : Int)
       ·rw [if_pos c14] at H
        have c14b0 : decide (x6_1 < (y399.length : Int)) = true := decide_eq_true c14
        clear c14
        by_cases c15 : ((wrap64 (x396000_1 + ((rd_T42 y399 x6_1).f0))) == ((rd_T42 l0 0).f0) && ((wrap64 (x396001_1 + ((rd_T42 y399 x6_1).f1))) == ((rd_T42 l0 0).f1))) = true
        ·rw [if_pos c15] at H
         have c15b0 : ((wrap64 (x396000_1 + ((rd_T42 y399 x6_1).f0))) == ((rd_T42 l0 0).f0) && ((wrap64 (x396001_1 + ((rd_T42 y399 x6_1).f1))) == ((rd_T42 l0 0).f1))) = true := c15
         (try (have c15b1 : decide ((wrap64 (x396000_1 + ((rd_T42 y399 x6_1).f0))) = ((rd_T42 l0 0).f0) && ((wrap64 (x396001_1 + ((rd_T42 y399 x6_1).f1))) == ((rd_T42 l0 0).f1))) = true := by simpa using c15))
         (try (have c15b2 : ((wrap64 (x396000_1 + ((rd_T42 y399 x6_1).f0))) == ((rd_T42 l0 0).f0) && ((wrap64 (x396001_1 + ((rd_T42 y399 x6_1).f1))) == ((rd_T42 l0 0).f1))) = true := by simpa using c15))
         clear c15
         obtain rfl := oi H
         have p12 : 0 ≤ (x6_1 : Int) := of_decide_eq_true (by first | (with_reducible assumption) | assumption)
         have q12 : x6_1 < (4 : Int) := of_decide_eq_true (by first | (with_reducible assumption) | assumption)
         have hx12 := bt_at (⟨#[114, 100, 108, 117]⟩ : ByteArray) x6_1
         replace p12 := eq_true p12
         replace q12 := eq_true q12
         try go_wp2_with (first | ((with_reducible refine gate_builtin (b := .append) (xs := #[.tmp 16, .tmp 19]) rfl ?_); at_builtin; refine Kd.R_append (Kd.int .u8) (w0 := w) w.heap.size rfl (.tmp 16) (.tmp 19) 32 5 (.int .u8 0) 1 rfl Tryd.underlying32 info5 rfl (by decide) (by omega) u3 x3_1 (bt (⟨#[114, 100, 108, 117]⟩ : ByteArray) x6_1) [.int .u8 (bt (⟨#[114, 100, 108, 117]⟩ : ByteArray) x6_1)] (fun _ => True) (fun _ => False) rfl rfl ?aP (fun _ hk => hk.elim) ?aF ?aO ?aB ?aS ?aL ?_; (case aP => exact rfl); (case aB => exact (by repeat (first | (with_reducible first | exact HB.out | apply b1 | apply b2 | apply b3 | refine b4 ?_ GE394.out | refine b4 ?_ GE395.out) | exact HB.out))); (case aF => exact (fun _ _ => trivial)); (case aO => exact (by (with_reducible repeat (first | apply Kd.R_alloc | apply Kd.R_drewN | apply Kd.R_drew)); exact HO_3.out)); (case aS => exact (b5 (by repeat (first | (with_reducible first | exact HB.out | apply b1 | apply b2 | apply b3 | refine b4 ?_ GE394.out | refine b4 ?_ GE395.out) | exact HB.out)))); (case aL => have := LMc13.out; omega); intro v397 w16 ho hb hg hat; rw [← Ny396.out] at ho; have n0_ := am (blk_grown (g := gb394) (o := .cells #[.int .i64 ((rd_T42 l0 0).f0), .int .i64 ((rd_T42 l0 0).f1)] 42 (0, 0)) (by (with_reducible repeat (first | refine k2 ?_ _ | refine k3 ?_ | refine k1 ?_ _)); exact BK394.out) hg (Kd.R_ne HO_3.out BK394.out (by decide))); have n1_ := am (blk_grown (g := gb395) (o := .cells #[.int .i64 x396000_1, .int .i64 x396001_1] 42 (0, 0)) (by (with_reducible repeat (first | refine k2 ?_ _ | refine k3 ?_ | refine k1 ?_ _)); exact BK395.out) hg (Kd.R_ne HO_3.out BK395.out (by decide))); have n2_ := am (hb); have n3_ := am (ho); clear BK394; clear BK395; clear HB; clear HO_3; have BK394 := n0_; have BK395 := n1_; have HB := n2_; have HO398 := n3_; clear n0_ n1_ n2_ n3_; clear ho hb hg hat) | ((with_reducible refine gate_dst (N := 25) rfl ?_); refine Kd.R_lit k42 _ 42 ?hg (N := 25) ?hd (xs := ([(⟨1, 0⟩ : S42), (⟨0, 1⟩ : S42), (⟨(-1), 0⟩ : S42), (⟨0, (-1)⟩ : S42)] : List (S42))) (inner := [.int .i64 1, .int .i64 0, .int .i64 0, .int .i64 1, .int .i64 (-1), .int .i64 0, .int .i64 0, .int .i64 (-1)]) (ok := fun _ => True) (okp := fun _ => True) ?hr ?hp (fun _ hk => hk) trivial (Below.refl _ _) (Nat.le_refl _) (by simp) ?_; (case hd => rfl); (case hg => rfl); (case hr => first | (go_simp; done) | (go_simp; rfl)); (case hp => exact (Reps.c2 (show Kd.M k42 _ _ _ (⟨1, 0⟩ : S42) [.int .i64 1, .int .i64 0] from (k42_mkM _ _ _ (⟨1, 0⟩ : S42) )) (Reps.c2 (show Kd.M k42 _ _ _ (⟨0, 1⟩ : S42) [.int .i64 0, .int .i64 1] from (k42_mkM _ _ _ (⟨0, 1⟩ : S42) )) (Reps.c2 (show Kd.M k42 _ _ _ (⟨(-1), 0⟩ : S42) [.int .i64 (-1), .int .i64 0] from (k42_mkM _ _ _ (⟨(-1), 0⟩ : S42) )) (Reps.c2 (show Kd.M k42 _ _ _ (⟨0, (-1)⟩ : S42) [.int .i64 0, .int .i64 (-1)] from (k42_mkM _ _ _ (⟨0, (-1)⟩ : S42) )) (Reps.none _ _)))))); intro v400 w17 ho18 hb hg_ hnew_; clear hg_ hnew_; (first | rw [← Ny399.out] at ho18 | (simp only [Int.reduceToNat] at ho18; rw [← Ny399.out] at ho18)); have n0_ := am (Kd.R_below (by (with_reducible repeat (first | apply Kd.R_alloc | apply Kd.R_drewN | apply Kd.R_drew)); exact HO398.out) hb); have n1_ := am (Kd.R_lower (Kd.R_newB (Kd.R_newB ho18 (g := gb394) (o := .cells #[.int .i64 ((rd_T42 l0 0).f0), .int .i64 ((rd_T42 l0 0).f1)] 42 (0, 0)) (by (with_reducible repeat (first | refine k2 ?_ _ | refine k3 ?_ | refine k1 ?_ _)); exact BK394.out)) (g := gb395) (o := .cells #[.int .i64 x396000_1, .int .i64 x396001_1] 42 (0, 0)) (by (with_reducible repeat (first | refine k2 ?_ _ | refine k3 ?_ | refine k1 ?_ _)); exact BK395.out)) (b5 (by repeat (first | (with_reducible first | exact HB.out | apply b1 | apply b2 | apply b3 | refine b4 ?_ GE394.out | refine b4 ?_ GE395.out) | exact HB.out)))); have n2_ := am (k4 (g := gb394) (o := .cells #[.int .i64 ((rd_T42 l0 0).f0), .int .i64 ((rd_T42 l0 0).f1)] 42 (0, 0)) (by (with_reducible repeat (first | refine k2 ?_ _ | refine k3 ?_ | refine k1 ?_ _)); exact BK394.out) hb); have n3_ := am (k4 (g := gb395) (o := .cells #[.int .i64 x396000_1, .int .i64 x396001_1] 42 (0, 0)) (by (with_reducible repeat (first | refine k2 ?_ _ | refine k3 ?_ | refine k1 ?_ _)); exact BK395.out) hb); have n4_ := am (b6 (by repeat (first | (with_reducible first | exact HB.out | apply b1 | apply b2 | apply b3 | refine b4 ?_ GE394.out | refine b4 ?_ GE395.out) | exact HB.out)) hb); clear HO398; clear BK394; clear BK395; clear HB; have HO398 := n0_; have HO401 := n1_; have BK394 := n2_; have BK395 := n3_; have HB := n4_; clear n0_ n1_ n2_ n3_ n4_; clear hb ho18))
         have n0_ := am (Kd.R_drew HO398.out)
         have n1_ := am (Kd.R_drew HO401.out)
         have n2_ := am (k3 BK394.out)
         have n3_ := am (k3 BK395.out)
         have n4_ := am (b3 HB.out)
         clear HO398
         clear HO401
         clear BK394
         clear BK395
         clear HB
         have HO398 := n0_
         have HO401 := n1_
         have BK394 := n2_
         have BK395 := n3_
         have HB := n4_
         clear n0_ n1_ n2_ n3_ n4_
         obtain ⟨Ao20, co20, eo20⟩ := Kd.R_slice HO401.out
         (first | subst eo20 | (injection eo20 with f1_ f2_ f3_; have f4_ := f1_.symm; have f5_ := f3_.symm; clear f1_ f2_ f3_; subst f4_; subst f5_))
         have p402 : 0 ≤ (x6_1 : Int) := of_decide_eq_true (by first | (with_reducible assumption) | assumption)
         have q402 : x6_1 < (y399.length : Int) := of_decide_eq_true (by first | (with_reducible assumption) | assumption)
         obtain ⟨ad402, e402, hx402_0, hx402_1⟩ := at_T42 (Kd.R_reads' HO401.out).2.2 x6_1 p402 q402
         cases e402
         replace p402 := eq_true p402
         replace q402 := eq_true q402
         have p403 : 0 ≤ (x6_1 : Int) := of_decide_eq_true (by first | (with_reducible assumption) | assumption)
         have q403 : x6_1 < (y399.length : Int) := of_decide_eq_true (by first | (with_reducible assumption) | assumption)
         obtain ⟨ad403, e403, hx403_0, hx403_1⟩ := at_T42 (Kd.R_reads' HO401.out).2.2 x6_1 p403 q403
         obtain rfl : ad402 = ad403 := (by injection e403)
         replace p403 := eq_true p403
         replace q403 := eq_true q403
         refine start_ (n := 18) (S := fun w' => w'.cell? ⟨gb395, 0, none⟩ = some (.int .i64 x396000_1) ∧ w'.cell? ⟨gb395, 1, none⟩ = some (.int .i64 x396001_1) ∧ w'.cell? (ad402.add ((x6_1).toNat * 2)) = some (.int .i64 ((rd_T42 y399 x6_1).f0)) ∧ w'.cell? ⟨(ad402.add ((x6_1).toNat * 2)).block, (ad402.add ((x6_1).toNat * 2)).off + 1, none⟩ = some (.int .i64 ((rd_T42 y399 x6_1).f1)) ∧ w'.cell? (ad402.add ((x6_1).toNat * 2)) = some (.int .i64 ((rd_T42 y399 x6_1).f0)) ∧ w'.cell? ⟨(ad402.add ((x6_1).toNat * 2)).block, (ad402.add ((x6_1).toNat * 2)).off + 1, none⟩ = some (.int .i64 ((rd_T42 y399 x6_1).f1))) (ds := [17]) spec_l23Word.m0 (by kernel_rfl) rfl rfl ⟨(kc BK395.out 0).trans rfl, (kc BK395.out 1).trans rfl, hx402_0, hx402_1, hx403_0, hx403_1⟩ (fun hHeld => ?_); refine with_tabW spec_l23Word.tab7 spec_l23Word.bits7 (fun HT_ HW_ => ?_)
         generalize w17.drew = w19 at HO398 HO401 BK394 BK395 HB hx402_0 hx402_1 hx403_0 hx403_1 hHeld ⊢
         refine pure_ (i := 0) (N := some 26) (v := ?_) (a' := ?_) spec_l23Word.m2 rfl rfl (any_of HT_.out (by kernel_rfl)) (fun _ _ _ h => h) (Or.inl ⟨by rfl, ?_⟩) ?_ ?_
         rotate_left
         ·intro w'
          go_simp
          with_reducible rfl
         rotate_left
         ·simp only [Act.put, sa, i64_w, i32_w]
          rfl
         refine pure_ (i := 2) (N := some 28) (v := ?_) (a' := ?_) spec_l23Word.m4 rfl rfl (any_of HT_.out (by kernel_rfl)) (fun _ _ _ h => h) (Or.inl ⟨by rfl, ?_⟩) ?_ ?_
         rotate_left
         ·intro w'
          go_simp
          with_reducible rfl
         rotate_left
         ·simp only [Act.put, sa, i64_w, i32_w]
          rfl
         refine pure_ (i := 3) (N := some 29) (v := ?_) (a' := ?_) spec_l23Word.m5 rfl rfl (any_of HT_.out (by kernel_rfl)) (fun _ _ _ h => h) (Or.inl ⟨by rfl, ?_⟩) ?_ ?_
         rotate_left
         ·intro w'
          go_simp
          with_reducible rfl
         rotate_left
         ·simp only [Act.put, sa, i64_w, i32_w]
          rfl
         refine pure_ (i := 4) (N := some 30) (v := ?_) (a' := ?_) spec_l23Word.m6 rfl rfl (any_of HT_.out (by kernel_rfl)) (fun _ _ _ h => h) (Or.inl ⟨by rfl, ?_⟩) ?_ ?_
         rotate_left
         ·intro w'
          go_simp
          with_reducible rfl
         rotate_left
         ·simp only [Act.put, sa, i64_w, i32_w]
          rfl
         refine pure_ (i := 5) (N := some 31) (v := ?_) (a' := ?_) spec_l23Word.m7 rfl rfl (any_of HT_.out (by kernel_rfl)) (fun _ _ _ h => h) (Or.inl ⟨by rfl, ?_⟩) ?_ ?_
         rotate_left
         ·intro w'
          go_simp
          with_reducible rfl
         rotate_left
         ·simp only [Act.put, sa, i64_w, i32_w]
          rfl
         refine pure_ (i := 8) (N := some 34) (v := ?_) (a' := ?_) spec_l23Word.m8 rfl rfl (any_of HT_.out (by kernel_rfl)) (fun _ _ _ h => h) (Or.inl ⟨by rfl, ?_⟩) ?_ ?_
         rotate_left
         ·intro w'
          go_simp
          with_reducible rfl
         rotate_left
         ·simp only [Act.put, sa, i64_w, i32_w]
          rfl
         refine pure_ (i := 10) (N := some 36) (v := ?_) (a' := ?_) spec_l23Word.m9 rfl rfl (any_of HT_.out (by kernel_rfl)) (fun _ _ _ h => h) (Or.inl ⟨by rfl, ?_⟩) ?_ ?_
         rotate_left
         ·intro w'
          go_simp
          with_reducible rfl
         rotate_left
         ·simp only [Act.put, sa, i64_w, i32_w]
          rfl
         refine pure_ (i := 11) (N := some 37) (v := ?_) (a' := ?_) spec_l23Word.m10 rfl rfl (any_of HT_.out (by kernel_rfl)) (fun _ _ _ h => h) (Or.inl ⟨by rfl, ?_⟩) ?_ ?_
         rotate_left
         ·intro w'
          go_simp
          with_reducible rfl
         rotate_left
         ·simp only [Act.put, sa, i64_w, i32_w]
          rfl
         refine pure_ (i := 12) (N := some 38) (v := ?_) (a' := ?_) spec_l23Word.m11 rfl rfl (any_of HT_.out (by kernel_rfl)) (fun _ _ _ h => h) (Or.inl ⟨by rfl, ?_⟩) ?_ ?_
         rotate_left
         ·intro w'
          go_simp
          with_reducible rfl
         rotate_left
         ·simp only [Act.put, sa, i64_w, i32_w]
          rfl
         refine pure_ (i := 13) (N := some 39) (v := ?_) (a' := ?_) spec_l23Word.m12 rfl rfl (any_of HT_.out (by kernel_rfl)) (fun _ _ _ h => h) (Or.inl ⟨by rfl, ?_⟩) ?_ ?_
         rotate_left
         ·intro w'
          go_simp
          with_reducible rfl
         rotate_left
         ·simp only [Act.put, sa, i64_w, i32_w]
          rfl
         refine take_ (i := 1) (N := some 27) (v := ?_) (a' := ?_) spec_l23Word.m20 rfl rfl (take_ofW HT_.out HW_.out (by kernel_rfl)) (fun _ _ _ h => h) (Or.inl ⟨by rfl, ?_⟩) hHeld ?_ ?_
         rotate_left
         ·rintro w' ⟨s0, s1, s2, s3, s4, s5⟩
          go_simp
          with_reducible rfl
         rotate_left
         ·simp only [Act.put, sa, i64_w, i32_w]
          rfl
         refine take_ (i := 6) (N := some 32) (v := ?_) (a' := ?_) spec_l23Word.m21 rfl rfl (take_ofW HT_.out HW_.out (by kernel_rfl)) (fun _ _ _ h => h) (Or.inl ⟨by rfl, ?_⟩) hHeld ?_ ?_
         rotate_left
         ·rintro w' ⟨s0, s1, s2, s3, s4, s5⟩
          go_simp
          with_reducible rfl
         rotate_left
         ·simp only [Act.put, sa, i64_w, i32_w]
          rfl
         refine pure_ (i := 7) (N := some 33) (v := ?_) (a' := ?_) spec_l23Word.m23 rfl rfl (any_of HT_.out (by kernel_rfl)) (fun _ _ _ h => h) (Or.inl ⟨by rfl, ?_⟩) ?_ ?_
         rotate_left
         ·intro w'
          go_simp
          with_reducible rfl
         rotate_left
         ·simp only [Act.put, sa, i64_w, i32_w]
          rfl
         refine take_ (i := 9) (N := some 35) (v := ?_) (a' := ?_) spec_l23Word.m29 rfl rfl (take_ofW HT_.out HW_.out (by kernel_rfl)) (fun _ _ _ h => h) (Or.inl ⟨by rfl, ?_⟩) hHeld ?_ ?_
         rotate_left
         ·rintro w' ⟨s0, s1, s2, s3, s4, s5⟩
          go_simp
          with_reducible rfl
         rotate_left
         ·simp only [Act.put, sa, i64_w, i32_w]
          rfl
         refine take_ (i := 14) (N := some 40) (v := ?_) (a' := ?_) spec_l23Word.m30 rfl rfl (take_ofW HT_.out HW_.out (by kernel_rfl)) (fun _ _ _ h => h) (Or.inl ⟨by rfl, ?_⟩) hHeld ?_ ?_
         rotate_left
         ·rintro w' ⟨s0, s1, s2, s3, s4, s5⟩
          go_simp
          with_reducible rfl
         rotate_left
         ·simp only [Act.put, sa, i64_w, i32_w]
          rfl
         refine pure_ (i := 15) (N := some 41) (v := ?_) (a' := ?_) spec_l23Word.m31 rfl rfl (any_of HT_.out (by kernel_rfl)) (fun _ _ _ h => h) (Or.inl ⟨by rfl, ?_⟩) ?_ ?_
         rotate_left
         ·intro w'
          go_simp
          with_reducible rfl
         rotate_left
         ·simp only [Act.put, sa, i64_w, i32_w]
          rfl
         refine pure_ (i := 16) (N := some 42) (v := ?_) (a' := ?_) spec_l23Word.m32 rfl rfl (any_of HT_.out (by kernel_rfl)) (fun _ _ _ h => h) (Or.inl ⟨by rfl, ?_⟩) ?_ ?_
         rotate_left
         ·intro w'
          go_simp
          with_reducible rfl
         rotate_left
         ·simp only [Act.put, sa, i64_w, i32_w]
          rfl
         refine last_ (i := 17) (N := none) spec_l23Word.m33 rfl rfl (one_of HT_.out (by kernel_rfl)) (by decide) (fun K hK => ?_)
         have hs21 : w19.cell? ⟨gb395, 0, none⟩ = some (.int .i64 x396000_1) := (kc BK395.out 0).trans rfl
         have hfs21 := kf BK395.out 0
         have hns21_0 := NB394_395.out
         have hms21_0 := NB395_394.out
         have hs22 : w19.cell? ⟨gb395, 1, none⟩ = some (.int .i64 x396001_1) := (kc BK395.out 1).trans rfl
         have hfs22 := kf BK395.out 1
         have hns22_0 := NB394_395.out
         have hms22_0 := NB395_394.out
         refine skip_ (w1 := ?_) (by rfl) rfl ?_ ?_
         rotate_left
         ·go_simp
          rfl
         refine hK.out _ _ ?_
         clear hK K
         refine done_ (done_of HT_.out (by kernel_rfl)) ?_
         have hnb23 := NB395_394.out
         have hnc23 := NB394_395.out
         have hcz24_0 : w19.cell? ⟨gb395, 0, none⟩ = some (.int .i64 x396000_1) := (kc BK395.out 0).trans rfl
         have hcz24_1 : w19.cell? ⟨gb395, 1, none⟩ = some (.int .i64 x396001_1) := (kc BK395.out 1).trans rfl
         have hfz24_0 := kf BK395.out 0
         have hfz24_1 := kf BK395.out 1
         have hcz25_0 : w19.cell? ⟨gb394, 0, none⟩ = some (.int .i64 ((rd_T42 l0 0).f0)) := (kc BK394.out 0).trans rfl
         have hcz25_1 : w19.cell? ⟨gb394, 1, none⟩ = some (.int .i64 ((rd_T42 l0 0).f1)) := (kc BK394.out 1).trans rfl
         have hfz25_0 := kf BK394.out 0
         have hfz25_1 := kf BK394.out 1
         have hcv26 := own_string (P := Tryd.prog) Tryd.underlying32 Tryd.underlying5 Tryd.underlying9 (Kd.own_of_R HO398.out)
         have hcv26z := fun (u1 u2 : Value) => own_string (P := Tryd.prog) Tryd.underlying32 Tryd.underlying5 Tryd.underlying9 (Kd.own_of_R (Kd.R_set (Kd.R_set HO398.out BK395.out (by intro q hq; rcases List.mem_cons.1 hq with rfl | hq <;> first | decide | exact absurd hq List.not_mem_nil | cases hq) 0 u1) (blk_put BK395.out 0 u1 rfl) (by intro q hq; rcases List.mem_cons.1 hq with rfl | hq <;> first | decide | exact absurd hq List.not_mem_nil | cases hq) 1 u2))
         try go_wp2
         go_ret
         exact ⟨by first | rfl | (simp [errW_none, errW_some] <;> rfl) | (simp [*, errW_none, errW_some] <;> rfl), by repeat (first | (with_reducible first | exact HB.out | apply b1 | apply b2 | apply b3 | refine b4 ?_ GE394.out | refine b4 ?_ GE395.out) | exact HB.out)⟩
        ·rw [if_neg c15] at H
         have c15b0 : ((wrap64 (x396000_1 + ((rd_T42 y399 x6_1).f0))) == ((rd_T42 l0 0).f0) && ((wrap64 (x396001_1 + ((rd_T42 y399 x6_1).f1))) == ((rd_T42 l0 0).f1))) = false := by simpa using c15
         (try (have c15b1 : decide ((wrap64 (x396000_1 + ((rd_T42 y399 x6_1).f0))) = ((rd_T42 l0 0).f0) && ((wrap64 (x396001_1 + ((rd_T42 y399 x6_1).f1))) == ((rd_T42 l0 0).f1))) = false := by simpa using c15))
         (try (have c15b2 : ((wrap64 (x396000_1 + ((rd_T42 y399 x6_1).f0))) == ((rd_T42 l0 0).f0) && ((wrap64 (x396001_1 + ((rd_T42 y399 x6_1).f1))) == ((rd_T42 l0 0).f1))) = false := by simpa using c15))
         (try (have c15b3 : ¬ ((wrap64 (x396000_1 + ((rd_T42 y399 x6_1).f0))) = ((rd_T42 l0 0).f0) && ((wrap64 (x396001_1 + ((rd_T42 y399 x6_1).f1))) == ((rd_T42 l0 0).f1))) := by simpa using c15))
         clear c15
         obtain ⟨y404, hy404⟩ : ∃ y_ : List (S42), y_ = (([(⟨wrap64 (x396000_1 + ((rd_T42 y399 x6_1).f0)), wrap64 ((wrap64 (x396001_1 + ((rd_T42 y399 x6_1).f1))) - 1)⟩ : S42), (⟨wrap64 (x396000_1 + ((rd_T42 y399 x6_1).f0)), wrap64 (x396001_1 + ((rd_T42 y399 x6_1).f1))⟩ : S42), (⟨wrap64 ((wrap64 (x396000_1 + ((rd_T42 y399 x6_1).f0))) - 1), wrap64 (x396001_1 + ((rd_T42 y399 x6_1).f1))⟩ : S42), (⟨wrap64 ((wrap64 (x396000_1 + ((rd_T42 y399 x6_1).f0))) - 1), wrap64 ((wrap64 (x396001_1 + ((rd_T42 y399 x6_1).f1))) - 1)⟩ : S42)] : List (S42))) := ⟨_, rfl⟩
         replace H : (if x6_1 < (y404.length : Int) then (if 0 ≤ (Int.tmod (wrap64 (x6_1 + 1)) 4) then (if (Int.tmod (wrap64 (x6_1 + 1)) 4) < (y404.length : Int) then ((spec_l02Index.f k1 l0 ((rd_T42 y404 x6_1).f0) ((rd_T42 y404 x6_1).f1)).bind fun t411 => (if t411 ≥ 0 then (spec_l23Word.l0 k1 l0 y396 (Int.tmod (wrap64 (x6_1 + 3)) 4) ((rd_T42 l0 0).f0) ((rd_T42 l0 0).f1) (wrap64 (x396000_1 + ((rd_T42 y399 x6_1).f0))) (wrap64 (x396001_1 + ((rd_T42 y399 x6_1).f1)))) else ((spec_l02Index.f k1 l0 ((rd_T42 y404 (Int.tmod (wrap64 (x6_1 + 1)) 4)).f0) ((rd_T42 y404 (Int.tmod (wrap64 (x6_1 + 1)) 4)).f1)).bind fun t412 => (if t412 < 0 then (spec_l23Word.l0 k1 l0 y396 (Int.tmod (wrap64 (x6_1 + 1)) 4) ((rd_T42 l0 0).f0) ((rd_T42 l0 0).f1) (wrap64 (x396000_1 + ((rd_T42 y399 x6_1).f0))) (wrap64 (x396001_1 + ((rd_T42 y399 x6_1).f1)))) else (spec_l23Word.l0 k1 l0 y396 x6_1 ((rd_T42 l0 0).f0) ((rd_T42 l0 0).f1) (wrap64 (x396000_1 + ((rd_T42 y399 x6_1).f0))) (wrap64 (x396001_1 + ((rd_T42 y399 x6_1).f1)))))))) else (none)) else (none)) else (none)) = some r := by first | (rw [hy404]; with_reducible exact H) | (have H2_ := (Option.bind_some _ _).symm.trans H; rw [hy404]; with_reducible exact H2_) | (have H2_ := (Option.bind_some _ _).symm.trans H; with_reducible exact H2_) | with_reducible exact H | (rw [hy404]; exact H) | exact H
         have Ny404 := am hy404
         clear hy404
         by_cases c27 : x6_1 < (y404.length : Int)
         ·rw [if_pos c27] at H
          have c27b0 : decide (x6_1 < (y404.length : Int)) = true := decide_eq_true c27
          clear c27
          obtain ⟨ji28, hji28⟩ : ∃ j_ : Int, (Int.tmod (wrap64 (x6_1 + 1)) 4) = j_ := ⟨_, rfl⟩
          replace H : (if 0 ≤ (ji28) then (if (ji28) < (y404.length : Int) then ((spec_l02Index.f k1 l0 ((rd_T42 y404 x6_1).f0) ((rd_T42 y404 x6_1).f1)).bind fun t411 => (if t411 ≥ 0 then (spec_l23Word.l0 k1 l0 y396 (Int.tmod (wrap64 (x6_1 + 3)) 4) ((rd_T42 l0 0).f0) ((rd_T42 l0 0).f1) (wrap64 (x396000_1 + ((rd_T42 y399 x6_1).f0))) (wrap64 (x396001_1 + ((rd_T42 y399 x6_1).f1)))) else ((spec_l02Index.f k1 l0 ((rd_T42 y404 (ji28)).f0) ((rd_T42 y404 (ji28)).f1)).bind fun t412 => (if t412 < 0 then (spec_l23Word.l0 k1 l0 y396 ji28 ((rd_T42 l0 0).f0) ((rd_T42 l0 0).f1) (wrap64 (x396000_1 + ((rd_T42 y399 x6_1).f0))) (wrap64 (x396001_1 + ((rd_T42 y399 x6_1).f1)))) else (spec_l23Word.l0 k1 l0 y396 x6_1 ((rd_T42 l0 0).f0) ((rd_T42 l0 0).f1) (wrap64 (x396000_1 + ((rd_T42 y399 x6_1).f0))) (wrap64 (x396001_1 + ((rd_T42 y399 x6_1).f1)))))))) else (none)) else (none)) = some r := by first | (rw [hji28] at H; exact H) | (simp only [hji28] at H ⊢; exact H)
          by_cases c29 : 0 ≤ (ji28)
          ·rw [if_pos c29] at H
           have c29b0 : decide (0 ≤ (ji28)) = true := decide_eq_true c29
           clear c29
           by_cases c30 : (ji28) < (y404.length : Int)
           ·rw [if_pos c30] at H
            have c30b0 : decide ((ji28) < (y404.length : Int)) = true := decide_eq_true c30
            clear c30
            replace H := ob H
            obtain ⟨t411, A310, H⟩ := H
            replace H : (if t411 ≥ 0 then (spec_l23Word.l0 k1 l0 y396 (Int.tmod (wrap64 (x6_1 + 3)) 4) ((rd_T42 l0 0).f0) ((rd_T42 l0 0).f1) (wrap64 (x396000_1 + ((rd_T42 y399 x6_1).f0))) (wrap64 (x396001_1 + ((rd_T42 y399 x6_1).f1)))) else ((spec_l02Index.f k1 l0 ((rd_T42 y404 (ji28)).f0) ((rd_T42 y404 (ji28)).f1)).bind fun t412 => (if t412 < 0 then (spec_l23Word.l0 k1 l0 y396 ji28 ((rd_T42 l0 0).f0) ((rd_T42 l0 0).f1) (wrap64 (x396000_1 + ((rd_T42 y399 x6_1).f0))) (wrap64 (x396001_1 + ((rd_T42 y399 x6_1).f1)))) else (spec_l23Word.l0 k1 l0 y396 x6_1 ((rd_T42 l0 0).f0) ((rd_T42 l0 0).f1) (wrap64 (x396000_1 + ((rd_T42 y399 x6_1).f0))) (wrap64 (x396001_1 + ((rd_T42 y399 x6_1).f1))))))) = some r := H
            have A31 := am A310
            clear A310
            by_cases c32 : t411 ≥ 0
            ·rw [if_pos c32] at H
             have c32b0 : decide (0 ≤ t411) = true := decide_eq_true c32
             clear c32
             have H' := am H
             clear H
             have p12 : 0 ≤ (x6_1 : Int) := of_decide_eq_true (by first | (with_reducible assumption) | assumption)
             have q12 : x6_1 < (4 : Int) := of_decide_eq_true (by first | (with_reducible assumption) | assumption)
             have hx12 := bt_at (⟨#[114, 100, 108, 117]⟩ : ByteArray) x6_1
             replace p12 := eq_true p12
             replace q12 := eq_true q12
             try go_wp2_with (first | ((with_reducible refine gate_builtin (b := .append) (xs := #[.tmp 16, .tmp 19]) rfl ?_); at_builtin; refine Kd.R_append (Kd.int .u8) (w0 := w) w.heap.size rfl (.tmp 16) (.tmp 19) 32 5 (.int .u8 0) 1 rfl Tryd.underlying32 info5 rfl (by decide) (by omega) u3 x3_1 (bt (⟨#[114, 100, 108, 117]⟩ : ByteArray) x6_1) [.int .u8 (bt (⟨#[114, 100, 108, 117]⟩ : ByteArray) x6_1)] (fun _ => True) (fun _ => False) rfl rfl ?aP (fun _ hk => hk.elim) ?aF ?aO ?aB ?aS ?aL ?_; (case aP => exact rfl); (case aB => exact (by repeat (first | (with_reducible first | exact HB.out | apply b1 | apply b2 | apply b3 | refine b4 ?_ GE394.out | refine b4 ?_ GE395.out) | exact HB.out))); (case aF => exact (fun _ _ => trivial)); (case aO => exact (by (with_reducible repeat (first | apply Kd.R_alloc | apply Kd.R_drewN | apply Kd.R_drew)); exact HO_3.out)); (case aS => exact (b5 (by repeat (first | (with_reducible first | exact HB.out | apply b1 | apply b2 | apply b3 | refine b4 ?_ GE394.out | refine b4 ?_ GE395.out) | exact HB.out)))); (case aL => have := LMc13.out; omega); intro v397 w33 ho hb hg hat; rw [← Ny396.out] at ho; have n0_ := am (blk_grown (g := gb394) (o := .cells #[.int .i64 ((rd_T42 l0 0).f0), .int .i64 ((rd_T42 l0 0).f1)] 42 (0, 0)) (by (with_reducible repeat (first | refine k2 ?_ _ | refine k3 ?_ | refine k1 ?_ _)); exact BK394.out) hg (Kd.R_ne HO_3.out BK394.out (by decide))); have n1_ := am (blk_grown (g := gb395) (o := .cells #[.int .i64 x396000_1, .int .i64 x396001_1] 42 (0, 0)) (by (with_reducible repeat (first | refine k2 ?_ _ | refine k3 ?_ | refine k1 ?_ _)); exact BK395.out) hg (Kd.R_ne HO_3.out BK395.out (by decide))); have n2_ := am (hb); have n3_ := am (ho); clear BK394; clear BK395; clear HB; clear HO_3; have BK394 := n0_; have BK395 := n1_; have HB := n2_; have HO398 := n3_; clear n0_ n1_ n2_ n3_; clear ho hb hg hat) | ((with_reducible refine gate_dst (N := 25) rfl ?_); refine Kd.R_lit k42 _ 42 ?hg (N := 25) ?hd (xs := ([(⟨1, 0⟩ : S42), (⟨0, 1⟩ : S42), (⟨(-1), 0⟩ : S42), (⟨0, (-1)⟩ : S42)] : List (S42))) (inner := [.int .i64 1, .int .i64 0, .int .i64 0, .int .i64 1, .int .i64 (-1), .int .i64 0, .int .i64 0, .int .i64 (-1)]) (ok := fun _ => True) (okp := fun _ => True) ?hr ?hp (fun _ hk => hk) trivial (Below.refl _ _) (Nat.le_refl _) (by simp) ?_; (case hd => rfl); (case hg => rfl); (case hr => first | (go_simp; done) | (go_simp; rfl)); (case hp => exact (Reps.c2 (show Kd.M k42 _ _ _ (⟨1, 0⟩ : S42) [.int .i64 1, .int .i64 0] from (k42_mkM _ _ _ (⟨1, 0⟩ : S42) )) (Reps.c2 (show Kd.M k42 _ _ _ (⟨0, 1⟩ : S42) [.int .i64 0, .int .i64 1] from (k42_mkM _ _ _ (⟨0, 1⟩ : S42) )) (Reps.c2 (show Kd.M k42 _ _ _ (⟨(-1), 0⟩ : S42) [.int .i64 (-1), .int .i64 0] from (k42_mkM _ _ _ (⟨(-1), 0⟩ : S42) )) (Reps.c2 (show Kd.M k42 _ _ _ (⟨0, (-1)⟩ : S42) [.int .i64 0, .int .i64 (-1)] from (k42_mkM _ _ _ (⟨0, (-1)⟩ : S42) )) (Reps.none _ _)))))); intro v400 w34 ho35 hb hg_ hnew_; clear hg_ hnew_; (first | rw [← Ny399.out] at ho35 | (simp only [Int.reduceToNat] at ho35; rw [← Ny399.out] at ho35)); have n0_ := am (Kd.R_below (by (with_reducible repeat (first | apply Kd.R_alloc | apply Kd.R_drewN | apply Kd.R_drew)); exact HO398.out) hb); have n1_ := am (Kd.R_lower (Kd.R_newB (Kd.R_newB ho35 (g := gb394) (o := .cells #[.int .i64 ((rd_T42 l0 0).f0), .int .i64 ((rd_T42 l0 0).f1)] 42 (0, 0)) (by (with_reducible repeat (first | refine k2 ?_ _ | refine k3 ?_ | refine k1 ?_ _)); exact BK394.out)) (g := gb395) (o := .cells #[.int .i64 x396000_1, .int .i64 x396001_1] 42 (0, 0)) (by (with_reducible repeat (first | refine k2 ?_ _ | refine k3 ?_ | refine k1 ?_ _)); exact BK395.out)) (b5 (by repeat (first | (with_reducible first | exact HB.out | apply b1 | apply b2 | apply b3 | refine b4 ?_ GE394.out | refine b4 ?_ GE395.out) | exact HB.out)))); have n2_ := am (k4 (g := gb394) (o := .cells #[.int .i64 ((rd_T42 l0 0).f0), .int .i64 ((rd_T42 l0 0).f1)] 42 (0, 0)) (by (with_reducible repeat (first | refine k2 ?_ _ | refine k3 ?_ | refine k1 ?_ _)); exact BK394.out) hb); have n3_ := am (k4 (g := gb395) (o := .cells #[.int .i64 x396000_1, .int .i64 x396001_1] 42 (0, 0)) (by (with_reducible repeat (first | refine k2 ?_ _ | refine k3 ?_ | refine k1 ?_ _)); exact BK395.out) hb); have n4_ := am (b6 (by repeat (first | (with_reducible first | exact HB.out | apply b1 | apply b2 | apply b3 | refine b4 ?_ GE394.out | refine b4 ?_ GE395.out) | exact HB.out)) hb); clear HO398; clear BK394; clear BK395; clear HB; have HO398 := n0_; have HO401 := n1_; have BK394 := n2_; have BK395 := n3_; have HB := n4_; clear n0_ n1_ n2_ n3_ n4_; clear hb ho35))
             have n0_ := am (Kd.R_drew HO398.out)
             have n1_ := am (Kd.R_drew HO401.out)
             have n2_ := am (k3 BK394.out)
             have n3_ := am (k3 BK395.out)
             have n4_ := am (b3 HB.out)
             clear HO398
             clear HO401
             clear BK394
             clear BK395
             clear HB
             have HO398 := n0_
             have HO401 := n1_
             have BK394 := n2_
             have BK395 := n3_
             have HB := n4_
             clear n0_ n1_ n2_ n3_ n4_
             obtain ⟨Ao37, co37, eo37⟩ := Kd.R_slice HO401.out
             (first | subst eo37 | (injection eo37 with f1_ f2_ f3_; have f4_ := f1_.symm; have f5_ := f3_.symm; clear f1_ f2_ f3_; subst f4_; subst f5_))
             have p402 : 0 ≤ (x6_1 : Int) := of_decide_eq_true (by first | (with_reducible assumption) | assumption)
             have q402 : x6_1 < (y399.length : Int) := of_decide_eq_true (by first | (with_reducible assumption) | assumption)
             obtain ⟨ad402, e402, hx402_0, hx402_1⟩ := at_T42 (Kd.R_reads' HO401.out).2.2 x6_1 p402 q402
             cases e402
             replace p402 := eq_true p402
             replace q402 := eq_true q402
             have p403 : 0 ≤ (x6_1 : Int) := of_decide_eq_true (by first | (with_reducible assumption) | assumption)
             have q403 : x6_1 < (y399.length : Int) := of_decide_eq_true (by first | (with_reducible assumption) | assumption)
             obtain ⟨ad403, e403, hx403_0, hx403_1⟩ := at_T42 (Kd.R_reads' HO401.out).2.2 x6_1 p403 q403
             obtain rfl : ad402 = ad403 := (by injection e403)
             replace p403 := eq_true p403
             replace q403 := eq_true q403
             refine start_ (n := 18) (S := fun w' => w'.cell? ⟨gb395, 0, none⟩ = some (.int .i64 x396000_1) ∧ w'.cell? ⟨gb395, 1, none⟩ = some (.int .i64 x396001_1) ∧ w'.cell? (ad402.add ((x6_1).toNat * 2)) = some (.int .i64 ((rd_T42 y399 x6_1).f0)) ∧ w'.cell? ⟨(ad402.add ((x6_1).toNat * 2)).block, (ad402.add ((x6_1).toNat * 2)).off + 1, none⟩ = some (.int .i64 ((rd_T42 y399 x6_1).f1)) ∧ w'.cell? (ad402.add ((x6_1).toNat * 2)) = some (.int .i64 ((rd_T42 y399 x6_1).f0)) ∧ w'.cell? ⟨(ad402.add ((x6_1).toNat * 2)).block, (ad402.add ((x6_1).toNat * 2)).off + 1, none⟩ = some (.int .i64 ((rd_T42 y399 x6_1).f1))) (ds := [17]) spec_l23Word.m0 (by kernel_rfl) rfl rfl ⟨(kc BK395.out 0).trans rfl, (kc BK395.out 1).trans rfl, hx402_0, hx402_1, hx403_0, hx403_1⟩ (fun hHeld => ?_); refine with_tabW spec_l23Word.tab7 spec_l23Word.bits7 (fun HT_ HW_ => ?_)
             generalize w34.drew = w36 at HO398 HO401 BK394 BK395 HB hx402_0 hx402_1 hx403_0 hx403_1 hHeld ⊢
             refine pure_ (i := 0) (N := some 26) (v := ?_) (a' := ?_) spec_l23Word.m2 rfl rfl (any_of HT_.out (by kernel_rfl)) (fun _ _ _ h => h) (Or.inl ⟨by rfl, ?_⟩) ?_ ?_
             rotate_left
             ·intro w'
              go_simp
              with_reducible rfl
             rotate_left
             ·simp only [Act.put, sa, i64_w, i32_w]
              rfl
             refine pure_ (i := 2) (N := some 28) (v := ?_) (a' := ?_) spec_l23Word.m4 rfl rfl (any_of HT_.out (by kernel_rfl)) (fun _ _ _ h => h) (Or.inl ⟨by rfl, ?_⟩) ?_ ?_
             rotate_left
             ·intro w'
              go_simp
              with_reducible rfl
             rotate_left
             ·simp only [Act.put, sa, i64_w, i32_w]
              rfl
             refine pure_ (i := 3) (N := some 29) (v := ?_) (a' := ?_) spec_l23Word.m5 rfl rfl (any_of HT_.out (by kernel_rfl)) (fun _ _ _ h => h) (Or.inl ⟨by rfl, ?_⟩) ?_ ?_
             rotate_left
             ·intro w'
              go_simp
              with_reducible rfl
             rotate_left
             ·simp only [Act.put, sa, i64_w, i32_w]
              rfl
             refine pure_ (i := 4) (N := some 30) (v := ?_) (a' := ?_) spec_l23Word.m6 rfl rfl (any_of HT_.out (by kernel_rfl)) (fun _ _ _ h => h) (Or.inl ⟨by rfl, ?_⟩) ?_ ?_
             rotate_left
             ·intro w'
              go_simp
              with_reducible rfl
             rotate_left
             ·simp only [Act.put, sa, i64_w, i32_w]
              rfl
             refine pure_ (i := 5) (N := some 31) (v := ?_) (a' := ?_) spec_l23Word.m7 rfl rfl (any_of HT_.out (by kernel_rfl)) (fun _ _ _ h => h) (Or.inl ⟨by rfl, ?_⟩) ?_ ?_
             rotate_left
             ·intro w'
              go_simp
              with_reducible rfl
             rotate_left
             ·simp only [Act.put, sa, i64_w, i32_w]
              rfl
             refine pure_ (i := 8) (N := some 34) (v := ?_) (a' := ?_) spec_l23Word.m8 rfl rfl (any_of HT_.out (by kernel_rfl)) (fun _ _ _ h => h) (Or.inl ⟨by rfl, ?_⟩) ?_ ?_
             rotate_left
             ·intro w'
              go_simp
              with_reducible rfl
             rotate_left
             ·simp only [Act.put, sa, i64_w, i32_w]
              rfl
             refine pure_ (i := 10) (N := some 36) (v := ?_) (a' := ?_) spec_l23Word.m9 rfl rfl (any_of HT_.out (by kernel_rfl)) (fun _ _ _ h => h) (Or.inl ⟨by rfl, ?_⟩) ?_ ?_
             rotate_left
             ·intro w'
              go_simp
              with_reducible rfl
             rotate_left
             ·simp only [Act.put, sa, i64_w, i32_w]
              rfl
             refine pure_ (i := 11) (N := some 37) (v := ?_) (a' := ?_) spec_l23Word.m10 rfl rfl (any_of HT_.out (by kernel_rfl)) (fun _ _ _ h => h) (Or.inl ⟨by rfl, ?_⟩) ?_ ?_
             rotate_left
             ·intro w'
              go_simp
              with_reducible rfl
             rotate_left
             ·simp only [Act.put, sa, i64_w, i32_w]
              rfl
             refine pure_ (i := 12) (N := some 38) (v := ?_) (a' := ?_) spec_l23Word.m11 rfl rfl (any_of HT_.out (by kernel_rfl)) (fun _ _ _ h => h) (Or.inl ⟨by rfl, ?_⟩) ?_ ?_
             rotate_left
             ·intro w'
              go_simp
              with_reducible rfl
             rotate_left
             ·simp only [Act.put, sa, i64_w, i32_w]
              rfl
             refine pure_ (i := 13) (N := some 39) (v := ?_) (a' := ?_) spec_l23Word.m12 rfl rfl (any_of HT_.out (by kernel_rfl)) (fun _ _ _ h => h) (Or.inl ⟨by rfl, ?_⟩) ?_ ?_
             rotate_left
             ·intro w'
              go_simp
              with_reducible rfl
             rotate_left
             ·simp only [Act.put, sa, i64_w, i32_w]
              rfl
             refine take_ (i := 1) (N := some 27) (v := ?_) (a' := ?_) spec_l23Word.m20 rfl rfl (take_ofW HT_.out HW_.out (by kernel_rfl)) (fun _ _ _ h => h) (Or.inl ⟨by rfl, ?_⟩) hHeld ?_ ?_
             rotate_left
             ·rintro w' ⟨s0, s1, s2, s3, s4, s5⟩
              go_simp
              with_reducible rfl
             rotate_left
             ·simp only [Act.put, sa, i64_w, i32_w]
              rfl
             refine take_ (i := 6) (N := some 32) (v := ?_) (a' := ?_) spec_l23Word.m21 rfl rfl (take_ofW HT_.out HW_.out (by kernel_rfl)) (fun _ _ _ h => h) (Or.inl ⟨by rfl, ?_⟩) hHeld ?_ ?_
             rotate_left
             ·rintro w' ⟨s0, s1, s2, s3, s4, s5⟩
              go_simp
              with_reducible rfl
             rotate_left
             ·simp only [Act.put, sa, i64_w, i32_w]
              rfl
             refine pure_ (i := 7) (N := some 33) (v := ?_) (a' := ?_) spec_l23Word.m23 rfl rfl (any_of HT_.out (by kernel_rfl)) (fun _ _ _ h => h) (Or.inl ⟨by rfl, ?_⟩) ?_ ?_
             rotate_left
             ·intro w'
              go_simp
              with_reducible rfl
             rotate_left
             ·simp only [Act.put, sa, i64_w, i32_w]
              rfl
             refine take_ (i := 9) (N := some 35) (v := ?_) (a' := ?_) spec_l23Word.m29 rfl rfl (take_ofW HT_.out HW_.out (by kernel_rfl)) (fun _ _ _ h => h) (Or.inl ⟨by rfl, ?_⟩) hHeld ?_ ?_
             rotate_left
             ·rintro w' ⟨s0, s1, s2, s3, s4, s5⟩
              go_simp
              with_reducible rfl
             rotate_left
             ·simp only [Act.put, sa, i64_w, i32_w]
              rfl
             refine take_ (i := 14) (N := some 40) (v := ?_) (a' := ?_) spec_l23Word.m30 rfl rfl (take_ofW HT_.out HW_.out (by kernel_rfl)) (fun _ _ _ h => h) (Or.inl ⟨by rfl, ?_⟩) hHeld ?_ ?_
             rotate_left
             ·rintro w' ⟨s0, s1, s2, s3, s4, s5⟩
              go_simp
              with_reducible rfl
             rotate_left
             ·simp only [Act.put, sa, i64_w, i32_w]
              rfl
             refine pure_ (i := 15) (N := some 41) (v := ?_) (a' := ?_) spec_l23Word.m31 rfl rfl (any_of HT_.out (by kernel_rfl)) (fun _ _ _ h => h) (Or.inl ⟨by rfl, ?_⟩) ?_ ?_
             rotate_left
             ·intro w'
              go_simp
              with_reducible rfl
             rotate_left
             ·simp only [Act.put, sa, i64_w, i32_w]
              rfl
             refine pure_ (i := 16) (N := some 42) (v := ?_) (a' := ?_) spec_l23Word.m32 rfl rfl (any_of HT_.out (by kernel_rfl)) (fun _ _ _ h => h) (Or.inl ⟨by rfl, ?_⟩) ?_ ?_
             rotate_left
             ·intro w'
              go_simp
              with_reducible rfl
             rotate_left
             ·simp only [Act.put, sa, i64_w, i32_w]
              rfl
             refine last_ (i := 17) (N := none) spec_l23Word.m33 rfl rfl (one_of HT_.out (by kernel_rfl)) (by decide) (fun K hK => ?_)
             have hs38 : w36.cell? ⟨gb395, 0, none⟩ = some (.int .i64 x396000_1) := (kc BK395.out 0).trans rfl
             have hfs38 := kf BK395.out 0
             have hns38_0 := NB394_395.out
             have hms38_0 := NB395_394.out
             have hs39 : w36.cell? ⟨gb395, 1, none⟩ = some (.int .i64 x396001_1) := (kc BK395.out 1).trans rfl
             have hfs39 := kf BK395.out 1
             have hns39_0 := NB394_395.out
             have hms39_0 := NB395_394.out
             refine skip_ (w1 := ?_) (by rfl) rfl ?_ ?_
             rotate_left
             ·go_simp
              rfl
             refine hK.out _ _ ?_
             clear hK K
             refine done_ (done_of HT_.out (by kernel_rfl)) ?_
             have hnb40 := NB395_394.out
             have hnc40 := NB394_395.out
             have hcz41_0 : w36.cell? ⟨gb395, 0, none⟩ = some (.int .i64 x396000_1) := (kc BK395.out 0).trans rfl
             have hcz41_1 : w36.cell? ⟨gb395, 1, none⟩ = some (.int .i64 x396001_1) := (kc BK395.out 1).trans rfl
             have hfz41_0 := kf BK395.out 0
             have hfz41_1 := kf BK395.out 1
             have hcz42_0 : w36.cell? ⟨gb394, 0, none⟩ = some (.int .i64 ((rd_T42 l0 0).f0)) := (kc BK394.out 0).trans rfl
             have hcz42_1 : w36.cell? ⟨gb394, 1, none⟩ = some (.int .i64 ((rd_T42 l0 0).f1)) := (kc BK394.out 1).trans rfl
             have hfz42_0 := kf BK394.out 0
             have hfz42_1 := kf BK394.out 1
             try go_wp2_with (first | ((with_reducible refine gate_dst (N := 68) rfl ?_); refine Kd.R_lit k42 _ 42 ?hg (N := 68) ?hd (xs := ([(⟨wrap64 (x396000_1 + ((rd_T42 y399 x6_1).f0)), wrap64 ((wrap64 (x396001_1 + ((rd_T42 y399 x6_1).f1))) - 1)⟩ : S42), (⟨wrap64 (x396000_1 + ((rd_T42 y399 x6_1).f0)), wrap64 (x396001_1 + ((rd_T42 y399 x6_1).f1))⟩ : S42), (⟨wrap64 ((wrap64 (x396000_1 + ((rd_T42 y399 x6_1).f0))) - 1), wrap64 (x396001_1 + ((rd_T42 y399 x6_1).f1))⟩ : S42), (⟨wrap64 ((wrap64 (x396000_1 + ((rd_T42 y399 x6_1).f0))) - 1), wrap64 ((wrap64 (x396001_1 + ((rd_T42 y399 x6_1).f1))) - 1)⟩ : S42)] : List (S42))) (inner := [.int .i64 (wrap64 (x396000_1 + ((rd_T42 y399 x6_1).f0))), .int .i64 (wrap64 ((wrap64 (x396001_1 + ((rd_T42 y399 x6_1).f1))) - 1)), .int .i64 (wrap64 (x396000_1 + ((rd_T42 y399 x6_1).f0))), .int .i64 (wrap64 (x396001_1 + ((rd_T42 y399 x6_1).f1))), .int .i64 (wrap64 ((wrap64 (x396000_1 + ((rd_T42 y399 x6_1).f0))) - 1)), .int .i64 (wrap64 (x396001_1 + ((rd_T42 y399 x6_1).f1))), .int .i64 (wrap64 ((wrap64 (x396000_1 + ((rd_T42 y399 x6_1).f0))) - 1)), .int .i64 (wrap64 ((wrap64 (x396001_1 + ((rd_T42 y399 x6_1).f1))) - 1))]) (ok := fun _ => True) (okp := fun _ => True) ?hr ?hp (fun _ hk => hk) trivial (Below.refl _ _) (Nat.le_refl _) (by simp) ?_; (case hd => rfl); (case hg => rfl); (case hr => first | (go_simp; done) | (go_simp; rfl)); (case hp => exact (Reps.c2 (show Kd.M k42 _ _ _ (⟨wrap64 (x396000_1 + ((rd_T42 y399 x6_1).f0)), wrap64 ((wrap64 (x396001_1 + ((rd_T42 y399 x6_1).f1))) - 1)⟩ : S42) [.int .i64 (wrap64 (x396000_1 + ((rd_T42 y399 x6_1).f0))), .int .i64 (wrap64 ((wrap64 (x396001_1 + ((rd_T42 y399 x6_1).f1))) - 1))] from (k42_mkM _ _ _ (⟨wrap64 (x396000_1 + ((rd_T42 y399 x6_1).f0)), wrap64 ((wrap64 (x396001_1 + ((rd_T42 y399 x6_1).f1))) - 1)⟩ : S42) )) (Reps.c2 (show Kd.M k42 _ _ _ (⟨wrap64 (x396000_1 + ((rd_T42 y399 x6_1).f0)), wrap64 (x396001_1 + ((rd_T42 y399 x6_1).f1))⟩ : S42) [.int .i64 (wrap64 (x396000_1 + ((rd_T42 y399 x6_1).f0))), .int .i64 (wrap64 (x396001_1 + ((rd_T42 y399 x6_1).f1)))] from (k42_mkM _ _ _ (⟨wrap64 (x396000_1 + ((rd_T42 y399 x6_1).f0)), wrap64 (x396001_1 + ((rd_T42 y399 x6_1).f1))⟩ : S42) )) (Reps.c2 (show Kd.M k42 _ _ _ (⟨wrap64 ((wrap64 (x396000_1 + ((rd_T42 y399 x6_1).f0))) - 1), wrap64 (x396001_1 + ((rd_T42 y399 x6_1).f1))⟩ : S42) [.int .i64 (wrap64 ((wrap64 (x396000_1 + ((rd_T42 y399 x6_1).f0))) - 1)), .int .i64 (wrap64 (x396001_1 + ((rd_T42 y399 x6_1).f1)))] from (k42_mkM _ _ _ (⟨wrap64 ((wrap64 (x396000_1 + ((rd_T42 y399 x6_1).f0))) - 1), wrap64 (x396001_1 + ((rd_T42 y399 x6_1).f1))⟩ : S42) )) (Reps.c2 (show Kd.M k42 _ _ _ (⟨wrap64 ((wrap64 (x396000_1 + ((rd_T42 y399 x6_1).f0))) - 1), wrap64 ((wrap64 (x396001_1 + ((rd_T42 y399 x6_1).f1))) - 1)⟩ : S42) [.int .i64 (wrap64 ((wrap64 (x396000_1 + ((rd_T42 y399 x6_1).f0))) - 1)), .int .i64 (wrap64 ((wrap64 (x396001_1 + ((rd_T42 y399 x6_1).f1))) - 1))] from (k42_mkM _ _ _ (⟨wrap64 ((wrap64 (x396000_1 + ((rd_T42 y399 x6_1).f0))) - 1), wrap64 ((wrap64 (x396001_1 + ((rd_T42 y399 x6_1).f1))) - 1)⟩ : S42) )) (Reps.none _ _)))))); intro v405 w43 ho44 hb hg_ hnew_; clear hg_ hnew_; (first | rw [← Ny404.out] at ho44 | (simp only [Int.reduceToNat] at ho44; rw [← Ny404.out] at ho44)); have n0_ := am (Kd.R_below (by (with_reducible repeat (first | apply Kd.R_alloc | apply Kd.R_drewN | apply Kd.R_drew)); exact (Kd.R_mono (Kd.R_far (p := ⟨gb395, 1, none⟩) (Kd.R_far (p := ⟨gb395, 0, none⟩) (Kd.R_types HO398.out BK395.out (by decide)) (fun _ hk => hk.2) (.int .i64 (wrap64 (x396000_1 + ((rd_T42 y399 x6_1).f0))))) (fun _ hk => hk.2) (.int .i64 (wrap64 (x396001_1 + ((rd_T42 y399 x6_1).f1))))) (fun _ h_ => h_.1))) hb); have n1_ := am (Kd.R_elder' (by (with_reducible repeat (first | apply Kd.R_alloc | apply Kd.R_drewN | apply Kd.R_drew)); exact (Kd.R_mono (Kd.R_far (p := ⟨gb395, 1, none⟩) (Kd.R_far (p := ⟨gb395, 0, none⟩) (Kd.R_mono HO401.out (fun k_ hk => (⟨hk, hk.2⟩ : _ ∧ k_ ≠ gb395))) (fun _ hk => hk.2) (.int .i64 (wrap64 (x396000_1 + ((rd_T42 y399 x6_1).f0))))) (fun _ hk => hk.2) (.int .i64 (wrap64 (x396001_1 + ((rd_T42 y399 x6_1).f1))))) (fun _ h_ => h_.1))) (Kd.R_base ho44) hb); have n2_ := am (Kd.R_lower (Kd.R_newB (Kd.R_newB (Kd.R_new' ho44 (Kd.R_lt (by (with_reducible repeat (first | apply Kd.R_alloc | apply Kd.R_drewN | apply Kd.R_drew)); exact (Kd.R_mono (Kd.R_far (p := ⟨gb395, 1, none⟩) (Kd.R_far (p := ⟨gb395, 0, none⟩) (Kd.R_mono HO401.out (fun k_ hk => (⟨hk, hk.2⟩ : _ ∧ k_ ≠ gb395))) (fun _ hk => hk.2) (.int .i64 (wrap64 (x396000_1 + ((rd_T42 y399 x6_1).f0))))) (fun _ hk => hk.2) (.int .i64 (wrap64 (x396001_1 + ((rd_T42 y399 x6_1).f1))))) (fun _ h_ => h_.1))))) (g := gb394) (o := .cells #[.int .i64 ((rd_T42 l0 0).f0), .int .i64 ((rd_T42 l0 0).f1)] 42 (0, 0)) (by (with_reducible repeat (first | refine k2 ?_ _ | refine k3 ?_ | refine k1 ?_ _)); refine blk_far ?_ NB394_395.out _; (with_reducible repeat (first | refine k2 ?_ _ | refine k3 ?_ | refine k1 ?_ _)); refine blk_far ?_ NB394_395.out _; (with_reducible repeat (first | refine k2 ?_ _ | refine k3 ?_ | refine k1 ?_ _)); exact BK394.out)) (g := gb395) (o := .cells #[.int .i64 (wrap64 (x396000_1 + ((rd_T42 y399 x6_1).f0))), .int .i64 (wrap64 (x396001_1 + ((rd_T42 y399 x6_1).f1)))] 42 (0, 0)) (by (with_reducible repeat (first | refine k2 ?_ _ | refine k3 ?_ | refine k1 ?_ _)); refine blk_put (cs := #[.int .i64 (wrap64 (x396000_1 + ((rd_T42 y399 x6_1).f0))), .int .i64 x396001_1]) ?_ 1 _ rfl; (with_reducible repeat (first | refine k2 ?_ _ | refine k3 ?_ | refine k1 ?_ _)); refine blk_put (cs := #[.int .i64 x396000_1, .int .i64 x396001_1]) ?_ 0 _ rfl; (with_reducible repeat (first | refine k2 ?_ _ | refine k3 ?_ | refine k1 ?_ _)); exact BK395.out)) (b5 (by repeat (first | (with_reducible first | exact HB.out | apply b1 | apply b2 | apply b3 | refine b4 ?_ GE394.out | refine b4 ?_ GE395.out) | exact HB.out)))); have n3_ := am (k4 (g := gb394) (o := .cells #[.int .i64 ((rd_T42 l0 0).f0), .int .i64 ((rd_T42 l0 0).f1)] 42 (0, 0)) (by (with_reducible repeat (first | refine k2 ?_ _ | refine k3 ?_ | refine k1 ?_ _)); refine blk_far ?_ NB394_395.out _; (with_reducible repeat (first | refine k2 ?_ _ | refine k3 ?_ | refine k1 ?_ _)); refine blk_far ?_ NB394_395.out _; (with_reducible repeat (first | refine k2 ?_ _ | refine k3 ?_ | refine k1 ?_ _)); exact BK394.out) hb); have n4_ := am (k4 (g := gb395) (o := .cells #[.int .i64 (wrap64 (x396000_1 + ((rd_T42 y399 x6_1).f0))), .int .i64 (wrap64 (x396001_1 + ((rd_T42 y399 x6_1).f1)))] 42 (0, 0)) (by (with_reducible repeat (first | refine k2 ?_ _ | refine k3 ?_ | refine k1 ?_ _)); refine blk_put (cs := #[.int .i64 (wrap64 (x396000_1 + ((rd_T42 y399 x6_1).f0))), .int .i64 x396001_1]) ?_ 1 _ rfl; (with_reducible repeat (first | refine k2 ?_ _ | refine k3 ?_ | refine k1 ?_ _)); refine blk_put (cs := #[.int .i64 x396000_1, .int .i64 x396001_1]) ?_ 0 _ rfl; (with_reducible repeat (first | refine k2 ?_ _ | refine k3 ?_ | refine k1 ?_ _)); exact BK395.out) hb); have n5_ := am (b6 (by repeat (first | (with_reducible first | exact HB.out | apply b1 | apply b2 | apply b3 | refine b4 ?_ GE394.out | refine b4 ?_ GE395.out) | exact HB.out)) hb); clear HO398; clear HO401; clear BK394; clear BK395; clear HB; have HO398 := n0_; have HO401 := n1_; have HO406 := n2_; have BK394 := n3_; have BK395 := n4_; have HB := n5_; clear n0_ n1_ n2_ n3_ n4_ n5_; clear hb ho44))
             have n0_ := am (Kd.R_drew HO398.out)
             have n1_ := am (Kd.R_drew HO401.out)
             have n2_ := am (Kd.R_drew HO406.out)
             have n3_ := am (k3 BK394.out)
             have n4_ := am (k3 BK395.out)
             have n5_ := am (b3 HB.out)
             clear HO398
             clear HO401
             clear HO406
             clear BK394
             clear BK395
             clear HB
             have HO398 := n0_
             have HO401 := n1_
             have HO406 := n2_
             have BK394 := n3_
             have BK395 := n4_
             have HB := n5_
             clear n0_ n1_ n2_ n3_ n4_ n5_
             obtain ⟨Ao46, co46, eo46⟩ := Kd.R_slice HO406.out
             (first | subst eo46 | (injection eo46 with f1_ f2_ f3_; have f4_ := f1_.symm; have f5_ := f3_.symm; clear f1_ f2_ f3_; subst f4_; subst f5_))
             have p407 : 0 ≤ (x6_1 : Int) := of_decide_eq_true (by first | (with_reducible assumption) | assumption)
             have q407 : x6_1 < (y404.length : Int) := of_decide_eq_true (by first | (with_reducible assumption) | assumption)
             obtain ⟨ad407, e407, hx407_0, hx407_1⟩ := at_T42 (Kd.R_reads' HO406.out).2.2 x6_1 p407 q407
             cases e407
             replace p407 := eq_true p407
             replace q407 := eq_true q407
             have p408 : 0 ≤ ((ji28) : Int) := of_decide_eq_true (by first | (with_reducible assumption) | assumption)
             have q408 : (ji28) < (y404.length : Int) := of_decide_eq_true (by first | (with_reducible assumption) | assumption)
             obtain ⟨ad408, e408, hx408_0, hx408_1⟩ := at_T42 (Kd.R_reads' HO406.out).2.2 (ji28) p408 q408
             obtain rfl : ad407 = ad408 := (by injection e408)
             replace p408 := eq_true p408
             replace q408 := eq_true q408
             refine start_ (n := 14) (S := fun w' => w'.cell? (ad407.add ((x6_1).toNat * 2)) = some (.int .i64 ((rd_T42 y404 x6_1).f0)) ∧ w'.cell? ⟨(ad407.add ((x6_1).toNat * 2)).block, (ad407.add ((x6_1).toNat * 2)).off + 1, none⟩ = some (.int .i64 ((rd_T42 y404 x6_1).f1)) ∧ w'.cell? (ad407.add (((ji28)).toNat * 2)) = some (.int .i64 ((rd_T42 y404 (ji28)).f0)) ∧ w'.cell? ⟨(ad407.add (((ji28)).toNat * 2)).block, (ad407.add (((ji28)).toNat * 2)).off + 1, none⟩ = some (.int .i64 ((rd_T42 y404 (ji28)).f1))) (ds := []) spec_l23Word.m1 (by kernel_rfl) rfl rfl ⟨hx407_0, hx407_1, hx408_0, hx408_1⟩ (fun hHeld => ?_); refine with_tabW spec_l23Word.tab11 spec_l23Word.bits11 (fun HT_ HW_ => ?_)
             generalize w43.drew = w45 at HO398 HO401 HO406 BK394 BK395 HB hx407_0 hx407_1 hx408_0 hx408_1 hHeld ⊢
             refine pure_ (i := 0) (N := some 69) (v := ?_) (a' := ?_) spec_l23Word.m3 rfl rfl (any_of HT_.out (by kernel_rfl)) (fun _ _ _ h => h) (Or.inl ⟨by rfl, ?_⟩) ?_ ?_
             rotate_left
             ·intro w'
              go_simp
              with_reducible rfl
             rotate_left
             ·simp only [Act.put, sa, i64_w, i32_w]
              rfl
             refine pure_ (i := 1) (N := some 70) (v := ?_) (a' := ?_) spec_l23Word.m13 rfl rfl (any_of HT_.out (by kernel_rfl)) (fun _ _ _ h => h) (Or.inl ⟨by rfl, ?_⟩) ?_ ?_
             rotate_left
             ·intro w'
              go_simp
              with_reducible rfl
             rotate_left
             ·simp only [Act.put, sa, i64_w, i32_w]
              rfl
             refine pure_ (i := 2) (N := some 71) (v := ?_) (a' := ?_) spec_l23Word.m14 rfl rfl (any_of HT_.out (by kernel_rfl)) (fun _ _ _ h => h) (Or.inl ⟨by rfl, ?_⟩) ?_ ?_
             rotate_left
             ·intro w'
              go_simp
              with_reducible rfl
             rotate_left
             ·simp only [Act.put, sa, i64_w, i32_w]
              rfl
             refine pure_ (i := 4) (N := some 73) (v := ?_) (a' := ?_) spec_l23Word.m15 rfl rfl (any_of HT_.out (by kernel_rfl)) (fun _ _ _ h => h) (Or.inl ⟨by rfl, ?_⟩) ?_ ?_
             rotate_left
             ·intro w'
              go_simp
              with_reducible rfl
             rotate_left
             ·simp only [Act.put, sa, i64_w, i32_w]
              rfl
             refine pure_ (i := 5) (N := some 74) (v := ?_) (a' := ?_) spec_l23Word.m16 rfl rfl (any_of HT_.out (by kernel_rfl)) (fun _ _ _ h => h) (Or.inl ⟨by rfl, ?_⟩) ?_ ?_
             rotate_left
             ·intro w'
              go_simp
              with_reducible rfl
             rotate_left
             ·simp only [Act.put, sa, i64_w, i32_w]
              rfl
             refine pure_ (i := 6) (N := some 75) (v := ?_) (a' := ?_) spec_l23Word.m17 rfl rfl (any_of HT_.out (by kernel_rfl)) (fun _ _ _ h => h) (Or.inl ⟨by rfl, ?_⟩) ?_ ?_
             rotate_left
             ·intro w'
              go_simp
              with_reducible rfl
             rotate_left
             ·simp only [Act.put, sa, i64_w, i32_w]
              rfl
             refine pure_ (i := 7) (N := some 76) (v := ?_) (a' := ?_) spec_l23Word.m18 rfl rfl (any_of HT_.out (by kernel_rfl)) (fun _ _ _ h => h) (Or.inl ⟨by rfl, ?_⟩) ?_ ?_
             rotate_left
             ·intro w'
              go_simp
              with_reducible rfl
             rotate_left
             ·simp only [Act.put, sa, i64_w, i32_w]
              rfl
             refine pure_ (i := 8) (N := some 77) (v := ?_) (a' := ?_) spec_l23Word.m19 rfl rfl (any_of HT_.out (by kernel_rfl)) (fun _ _ _ h => h) (Or.inl ⟨by rfl, ?_⟩) ?_ ?_
             rotate_left
             ·intro w'
              go_simp
              with_reducible rfl
             rotate_left
             ·simp only [Act.put, sa, i64_w, i32_w]
              rfl
             refine take_ (i := 3) (N := some 72) (v := ?_) (a' := ?_) spec_l23Word.m22 rfl rfl (take_ofW HT_.out HW_.out (by kernel_rfl)) (fun _ _ _ h => h) (Or.inl ⟨by rfl, ?_⟩) hHeld ?_ ?_
             rotate_left
             ·rintro w' ⟨s0, s1, s2, s3⟩
              go_simp
              with_reducible rfl
             rotate_left
             ·simp only [Act.put, sa, i64_w, i32_w]
              rfl
             refine take_ (i := 9) (N := some 78) (v := ?_) (a' := ?_) spec_l23Word.m24 rfl rfl (take_ofW HT_.out HW_.out (by kernel_rfl)) (fun _ _ _ h => h) (Or.inl ⟨by rfl, ?_⟩) hHeld ?_ ?_
             rotate_left
             ·rintro w' ⟨s0, s1, s2, s3⟩
              go_simp
              with_reducible rfl
             rotate_left
             ·simp only [Act.put, sa, i64_w, i32_w]
              rfl
             refine join_ (σ := Nat × Nat) 2 spec_l23Word.m27 (fun s_ => [(9, .pointer (some ⟨s_.1, 0, none⟩)), (10, .pointer (some ⟨s_.2, 0, none⟩))]) (fun s_ w' => (w'.cell? (ad407.add ((x6_1).toNat * 2)) = some (.int .i64 ((rd_T42 y404 x6_1).f0)) ∧ w'.cell? ⟨(ad407.add ((x6_1).toNat * 2)).block, (ad407.add ((x6_1).toNat * 2)).off + 1, none⟩ = some (.int .i64 ((rd_T42 y404 x6_1).f1)) ∧ w'.cell? (ad407.add (((ji28)).toNat * 2)) = some (.int .i64 ((rd_T42 y404 (ji28)).f0)) ∧ w'.cell? ⟨(ad407.add (((ji28)).toNat * 2)).block, (ad407.add (((ji28)).toNat * 2)).off + 1, none⟩ = some (.int .i64 ((rd_T42 y404 (ji28)).f1))) ∧ (Kd.R (Kd.int .u8) 5 w' w.heap.size (fun _ => True) v397 y396) ∧ (Kd.R k42 42 w' w.heap.size (fun k_ => some k_ ≠ (.slice (some ad407) y404.length co46 : Value).ownBlock ∧ k_ ≠ gb394 ∧ k_ ≠ gb395 ∧ k_ ≠ s_.1 ∧ k_ ≠ s_.2) (.slice (some ad402) y399.length co37) y399) ∧ (Kd.R k42 42 w' w.heap.size (fun k_ => some k_ ≠ (.slice (some ad402) y399.length co37 : Value).ownBlock ∧ k_ ≠ gb394 ∧ k_ ≠ gb395 ∧ k_ ≠ s_.1 ∧ k_ ≠ s_.2) (.slice (some ad407) y404.length co46) y404) ∧ (w'.heap[gb394]? = some (.cells #[.int .i64 ((rd_T42 l0 0).f0), .int .i64 ((rd_T42 l0 0).f1)] 42 (0, 0))) ∧ (w'.heap[gb395]? = some (.cells #[.int .i64 (wrap64 (x396000_1 + ((rd_T42 y399 x6_1).f0))), .int .i64 (wrap64 (x396001_1 + ((rd_T42 y399 x6_1).f1)))] 42 (0, 0))) ∧ (w'.heap[s_.1]? = some (.cells #[.int .i64 0, .int .i64 0] 42 (0, 0))) ∧ (w'.heap[s_.2]? = some (.cells #[.int .i64 0, .int .i64 0] 42 (0, 0))) ∧ (w.heap.size ≤ s_.1) ∧ (w.heap.size ≤ s_.1) ∧ (gb394 ≠ s_.1) ∧ (s_.1 ≠ gb394) ∧ (gb395 ≠ s_.1) ∧ (s_.1 ≠ gb395) ∧ (s_.2 ≠ s_.1) ∧ (s_.1 ≠ s_.2) ∧ (w.heap.size ≤ s_.2) ∧ (w.heap.size ≤ s_.2) ∧ (gb394 ≠ s_.2) ∧ (s_.2 ≠ gb394) ∧ (gb395 ≠ s_.2) ∧ (s_.2 ≠ gb395) ∧ (Below w.heap.size w w')) ?_ ?_
             rotate_left
             ·intro hCont
              refine two_ (i := 10) (j := 11) (Ni := some 9) (Nj := some 10) spec_l23Word.m26 spec_l23Word.m25 rfl rfl rfl rfl (two_of HT_.out (by kernel_rfl)) (by decide) (by decide) (fun K hK => ?_) (fun K hK => ?_)
              ·skip
               refine box_step ?hg (N := 9) ?hd (cs := #[.int .i64 0, .int .i64 0]) (t := 42) ?hr ?_; (case hd => rfl); (case hg => rfl); (case hr => first | (go_simp; done) | (go_simp; rfl))
               intro gb409 hg w47 hbox hb
               have HS0_ := (hb.cell (World.block_lt_of_cell? _ _ (hHeld.1))).trans (hHeld.1)
               have HS1_ := (hb.cell (World.block_lt_of_cell? _ _ (hHeld.2.1))).trans (hHeld.2.1)
               have HS2_ := (hb.cell (World.block_lt_of_cell? _ _ (hHeld.2.2.1))).trans (hHeld.2.2.1)
               have HS3_ := (hb.cell (World.block_lt_of_cell? _ _ (hHeld.2.2.2))).trans (hHeld.2.2.2)
               have n0_ := am (Kd.R_below (by (with_reducible repeat (first | apply Kd.R_alloc | apply Kd.R_drewN | apply Kd.R_drew)); exact HO398.out) hb)
               have n1_ := am (Kd.R_below (Kd.R_elderB (by (with_reducible repeat (first | apply Kd.R_alloc | apply Kd.R_drewN | apply Kd.R_drew)); exact HO401.out) gb409 (Nat.le_of_eq hg.symm)) hb)
               have n2_ := am (Kd.R_below (Kd.R_elderB (by (with_reducible repeat (first | apply Kd.R_alloc | apply Kd.R_drewN | apply Kd.R_drew)); exact HO406.out) gb409 (Nat.le_of_eq hg.symm)) hb)
               have n3_ := am (k4 (g := gb394) (o := .cells #[.int .i64 ((rd_T42 l0 0).f0), .int .i64 ((rd_T42 l0 0).f1)] 42 (0, 0)) (by (with_reducible repeat (first | refine k2 ?_ _ | refine k3 ?_ | refine k1 ?_ _)); exact BK394.out) hb)
               have n4_ := am (k4 (g := gb395) (o := .cells #[.int .i64 (wrap64 (x396000_1 + ((rd_T42 y399 x6_1).f0))), .int .i64 (wrap64 (x396001_1 + ((rd_T42 y399 x6_1).f1)))] 42 (0, 0)) (by (with_reducible repeat (first | refine k2 ?_ _ | refine k3 ?_ | refine k1 ?_ _)); exact BK395.out) hb)
               have n5_ := am (b6 (by repeat (first | (with_reducible first | exact HB.out | apply b1 | apply b2 | apply b3 | refine b4 ?_ GE394.out | refine b4 ?_ GE395.out) | exact HB.out)) hb)
               have n6_ := am (hbox)
               have n7_ := am ((by rw [hg]; exact (b5 (by repeat (first | (with_reducible first | exact HB.out | apply b1 | apply b2 | apply b3 | refine b4 ?_ GE394.out | refine b4 ?_ GE395.out) | exact HB.out))) : w.heap.size ≤ gb409))
               have n8_ := am ((by rw [hg]; exact (b5 (by repeat (first | (with_reducible first | exact HB.out | apply b1 | apply b2 | apply b3 | refine b4 ?_ GE394.out | refine b4 ?_ GE395.out) | exact HB.out))) : w.heap.size ≤ gb409))
               have n9_ := am ((by rw [hg]; exact nl (k5 (g := gb394) (o := .cells #[.int .i64 ((rd_T42 l0 0).f0), .int .i64 ((rd_T42 l0 0).f1)] 42 (0, 0)) (by (with_reducible repeat (first | refine k2 ?_ _ | refine k3 ?_ | refine k1 ?_ _)); exact BK394.out)) : gb394 ≠ gb409))
               have n10_ := am ((by rw [hg]; exact ng (k5 (g := gb394) (o := .cells #[.int .i64 ((rd_T42 l0 0).f0), .int .i64 ((rd_T42 l0 0).f1)] 42 (0, 0)) (by (with_reducible repeat (first | refine k2 ?_ _ | refine k3 ?_ | refine k1 ?_ _)); exact BK394.out)) : gb409 ≠ gb394))
               have n11_ := am ((by rw [hg]; exact nl (k5 (g := gb395) (o := .cells #[.int .i64 (wrap64 (x396000_1 + ((rd_T42 y399 x6_1).f0))), .int .i64 (wrap64 (x396001_1 + ((rd_T42 y399 x6_1).f1)))] 42 (0, 0)) (by (with_reducible repeat (first | refine k2 ?_ _ | refine k3 ?_ | refine k1 ?_ _)); exact BK395.out)) : gb395 ≠ gb409))
               have n12_ := am ((by rw [hg]; exact ng (k5 (g := gb395) (o := .cells #[.int .i64 (wrap64 (x396000_1 + ((rd_T42 y399 x6_1).f0))), .int .i64 (wrap64 (x396001_1 + ((rd_T42 y399 x6_1).f1)))] 42 (0, 0)) (by (with_reducible repeat (first | refine k2 ?_ _ | refine k3 ?_ | refine k1 ?_ _)); exact BK395.out)) : gb409 ≠ gb395))
               clear HO398
               clear HO401
               clear HO406
               clear BK394
               clear BK395
               clear HB
               have HO398 := n0_
               have HO401 := n1_
               have HO406 := n2_
               have BK394 := n3_
               have BK395 := n4_
               have HB := n5_
               have BK409 := n6_
               have GW409 := n7_
               have GE409 := n8_
               have NB394_409 := n9_
               have NB409_394 := n10_
               have NB395_409 := n11_
               have NB409_395 := n12_
               clear n0_ n1_ n2_ n3_ n4_ n5_ n6_ n7_ n8_ n9_ n10_ n11_ n12_
               clear hb hbox hg
               refine hK.out _ _ ⟨HS0_, HS1_, HS2_, HS3_⟩ (fun hHeld => ?_)
               clear hK K
               refine norm_ (a' := ?_) ?_ ?_
               rotate_left
               ·show Act.put _ (some 9) _ = _
                simp only [Act.put, sa, i64_w, i32_w]
                rfl
               refine one_ (i := 11) (N := some 10) spec_l23Word.m27 rfl rfl (one_of HT_.out (by kernel_rfl)) (by decide) (fun K hK => ?_)
               refine box_step ?hg (N := 10) ?hd (cs := #[.int .i64 0, .int .i64 0]) (t := 42) ?hr ?_; (case hd => rfl); (case hg => rfl); (case hr => first | (go_simp; done) | (go_simp; rfl))
               intro gb410 hg w48 hbox hb
               have HS0_ := (hb.cell (World.block_lt_of_cell? _ _ (hHeld.1))).trans (hHeld.1)
               have HS1_ := (hb.cell (World.block_lt_of_cell? _ _ (hHeld.2.1))).trans (hHeld.2.1)
               have HS2_ := (hb.cell (World.block_lt_of_cell? _ _ (hHeld.2.2.1))).trans (hHeld.2.2.1)
               have HS3_ := (hb.cell (World.block_lt_of_cell? _ _ (hHeld.2.2.2))).trans (hHeld.2.2.2)
               have n0_ := am (Kd.R_below (by (with_reducible repeat (first | apply Kd.R_alloc | apply Kd.R_drewN | apply Kd.R_drew)); exact HO398.out) hb)
               have n1_ := am (Kd.R_below (Kd.R_elderB (by (with_reducible repeat (first | apply Kd.R_alloc | apply Kd.R_drewN | apply Kd.R_drew)); exact HO401.out) gb410 (Nat.le_of_eq hg.symm)) hb)
               have n2_ := am (Kd.R_below (Kd.R_elderB (by (with_reducible repeat (first | apply Kd.R_alloc | apply Kd.R_drewN | apply Kd.R_drew)); exact HO406.out) gb410 (Nat.le_of_eq hg.symm)) hb)
               have n3_ := am (k4 (g := gb394) (o := .cells #[.int .i64 ((rd_T42 l0 0).f0), .int .i64 ((rd_T42 l0 0).f1)] 42 (0, 0)) (by (with_reducible repeat (first | refine k2 ?_ _ | refine k3 ?_ | refine k1 ?_ _)); exact BK394.out) hb)
               have n4_ := am (k4 (g := gb395) (o := .cells #[.int .i64 (wrap64 (x396000_1 + ((rd_T42 y399 x6_1).f0))), .int .i64 (wrap64 (x396001_1 + ((rd_T42 y399 x6_1).f1)))] 42 (0, 0)) (by (with_reducible repeat (first | refine k2 ?_ _ | refine k3 ?_ | refine k1 ?_ _)); exact BK395.out) hb)
               have n5_ := am (k4 (g := gb409) (o := .cells #[.int .i64 0, .int .i64 0] 42 (0, 0)) (by (with_reducible repeat (first | refine k2 ?_ _ | refine k3 ?_ | refine k1 ?_ _)); exact BK409.out) hb)
               have n6_ := am (b6 (by repeat (first | (with_reducible first | exact HB.out | apply b1 | apply b2 | apply b3 | refine b4 ?_ GE394.out | refine b4 ?_ GE395.out | refine b4 ?_ GE409.out) | exact HB.out)) hb)
               have n7_ := am (hbox)
               have n8_ := am ((by rw [hg]; exact (b5 (by repeat (first | (with_reducible first | exact HB.out | apply b1 | apply b2 | apply b3 | refine b4 ?_ GE394.out | refine b4 ?_ GE395.out | refine b4 ?_ GE409.out) | exact HB.out))) : w.heap.size ≤ gb410))
               have n9_ := am ((by rw [hg]; exact (b5 (by repeat (first | (with_reducible first | exact HB.out | apply b1 | apply b2 | apply b3 | refine b4 ?_ GE394.out | refine b4 ?_ GE395.out | refine b4 ?_ GE409.out) | exact HB.out))) : w.heap.size ≤ gb410))
               have n10_ := am ((by rw [hg]; exact nl (k5 (g := gb394) (o := .cells #[.int .i64 ((rd_T42 l0 0).f0), .int .i64 ((rd_T42 l0 0).f1)] 42 (0, 0)) (by (with_reducible repeat (first | refine k2 ?_ _ | refine k3 ?_ | refine k1 ?_ _)); exact BK394.out)) : gb394 ≠ gb410))
               have n11_ := am ((by rw [hg]; exact ng (k5 (g := gb394) (o := .cells #[.int .i64 ((rd_T42 l0 0).f0), .int .i64 ((rd_T42 l0 0).f1)] 42 (0, 0)) (by (with_reducible repeat (first | refine k2 ?_ _ | refine k3 ?_ | refine k1 ?_ _)); exact BK394.out)) : gb410 ≠ gb394))
               have n12_ := am ((by rw [hg]; exact nl (k5 (g := gb395) (o := .cells #[.int .i64 (wrap64 (x396000_1 + ((rd_T42 y399 x6_1).f0))), .int .i64 (wrap64 (x396001_1 + ((rd_T42 y399 x6_1).f1)))] 42 (0, 0)) (by (with_reducible repeat (first | refine k2 ?_ _ | refine k3 ?_ | refine k1 ?_ _)); exact BK395.out)) : gb395 ≠ gb410))
               have n13_ := am ((by rw [hg]; exact ng (k5 (g := gb395) (o := .cells #[.int .i64 (wrap64 (x396000_1 + ((rd_T42 y399 x6_1).f0))), .int .i64 (wrap64 (x396001_1 + ((rd_T42 y399 x6_1).f1)))] 42 (0, 0)) (by (with_reducible repeat (first | refine k2 ?_ _ | refine k3 ?_ | refine k1 ?_ _)); exact BK395.out)) : gb410 ≠ gb395))
               have n14_ := am ((by rw [hg]; exact nl (k5 (g := gb409) (o := .cells #[.int .i64 0, .int .i64 0] 42 (0, 0)) (by (with_reducible repeat (first | refine k2 ?_ _ | refine k3 ?_ | refine k1 ?_ _)); exact BK409.out)) : gb409 ≠ gb410))
               have n15_ := am ((by rw [hg]; exact ng (k5 (g := gb409) (o := .cells #[.int .i64 0, .int .i64 0] 42 (0, 0)) (by (with_reducible repeat (first | refine k2 ?_ _ | refine k3 ?_ | refine k1 ?_ _)); exact BK409.out)) : gb410 ≠ gb409))
               clear HO398
               clear HO401
               clear HO406
               clear BK394
               clear BK395
               clear BK409
               clear HB
               have HO398 := n0_
               have HO401 := n1_
               have HO406 := n2_
               have BK394 := n3_
               have BK395 := n4_
               have BK409 := n5_
               have HB := n6_
               have BK410 := n7_
               have GW410 := n8_
               have GE410 := n9_
               have NB394_410 := n10_
               have NB410_394 := n11_
               have NB395_410 := n12_
               have NB410_395 := n13_
               have NB409_410 := n14_
               have NB410_409 := n15_
               clear n0_ n1_ n2_ n3_ n4_ n5_ n6_ n7_ n8_ n9_ n10_ n11_ n12_ n13_ n14_ n15_
               clear hb hbox hg
               refine hK.out _ _ ⟨HS0_, HS1_, HS2_, HS3_⟩ (fun hHeld => ?_)
               clear hK K
               refine norm_ (a' := ?_) ?_ ?_
               rotate_left
               ·show Act.put _ (some 10) _ = _
                simp only [Act.put, sa, i64_w, i32_w]
                rfl
               exact norm_ (by simp only [putAll, Act.put, sa]) (hCont (gb409, gb410) _ ⟨hHeld, (by (with_reducible repeat (first | apply Kd.R_alloc | apply Kd.R_drewN | apply Kd.R_drew)); exact HO398.out), (by (with_reducible repeat (first | apply Kd.R_alloc | apply Kd.R_drewN | apply Kd.R_drew)); exact Kd.R_mono HO401.out (fun _ hk => ⟨hk.1.1.2, ⟨hk.1.1.1.1.2, ⟨hk.1.1.1.2, ⟨hk.1.2, hk.2⟩⟩⟩⟩)), (by (with_reducible repeat (first | apply Kd.R_alloc | apply Kd.R_drewN | apply Kd.R_drew)); exact Kd.R_mono HO406.out (fun _ hk => ⟨hk.1.1.1.1.2, ⟨hk.1.1.1.2, ⟨hk.1.1.2, ⟨hk.1.2, hk.2⟩⟩⟩⟩)), (by (with_reducible repeat (first | refine k2 ?_ _ | refine k3 ?_ | refine k1 ?_ _)); exact BK394.out), (by (with_reducible repeat (first | refine k2 ?_ _ | refine k3 ?_ | refine k1 ?_ _)); exact BK395.out), (by (with_reducible repeat (first | refine k2 ?_ _ | refine k3 ?_ | refine k1 ?_ _)); exact BK409.out), (by (with_reducible repeat (first | refine k2 ?_ _ | refine k3 ?_ | refine k1 ?_ _)); exact BK410.out), GW409.out, GE409.out, NB394_409.out, NB409_394.out, NB395_409.out, NB409_395.out, NB410_409.out, NB409_410.out, GW410.out, GE410.out, NB394_410.out, NB410_394.out, NB395_410.out, NB410_395.out, (by repeat (first | (with_reducible first | exact HB.out | apply b1 | apply b2 | apply b3 | refine b4 ?_ GE394.out | refine b4 ?_ GE395.out | refine b4 ?_ GE409.out | refine b4 ?_ GE410.out) | exact HB.out))⟩)
              ·skip
               refine box_step ?hg (N := 10) ?hd (cs := #[.int .i64 0, .int .i64 0]) (t := 42) ?hr ?_; (case hd => rfl); (case hg => rfl); (case hr => first | (go_simp; done) | (go_simp; rfl))
               intro gb410 hg w47 hbox hb
               have HS0_ := (hb.cell (World.block_lt_of_cell? _ _ (hHeld.1))).trans (hHeld.1)
               have HS1_ := (hb.cell (World.block_lt_of_cell? _ _ (hHeld.2.1))).trans (hHeld.2.1)
               have HS2_ := (hb.cell (World.block_lt_of_cell? _ _ (hHeld.2.2.1))).trans (hHeld.2.2.1)
               have HS3_ := (hb.cell (World.block_lt_of_cell? _ _ (hHeld.2.2.2))).trans (hHeld.2.2.2)
               have n0_ := am (Kd.R_below (by (with_reducible repeat (first | apply Kd.R_alloc | apply Kd.R_drewN | apply Kd.R_drew)); exact HO398.out) hb)
               have n1_ := am (Kd.R_below (Kd.R_elderB (by (with_reducible repeat (first | apply Kd.R_alloc | apply Kd.R_drewN | apply Kd.R_drew)); exact HO401.out) gb410 (Nat.le_of_eq hg.symm)) hb)
               have n2_ := am (Kd.R_below (Kd.R_elderB (by (with_reducible repeat (first | apply Kd.R_alloc | apply Kd.R_drewN | apply Kd.R_drew)); exact HO406.out) gb410 (Nat.le_of_eq hg.symm)) hb)
               have n3_ := am (k4 (g := gb394) (o := .cells #[.int .i64 ((rd_T42 l0 0).f0), .int .i64 ((rd_T42 l0 0).f1)] 42 (0, 0)) (by (with_reducible repeat (first | refine k2 ?_ _ | refine k3 ?_ | refine k1 ?_ _)); exact BK394.out) hb)
               have n4_ := am (k4 (g := gb395) (o := .cells #[.int .i64 (wrap64 (x396000_1 + ((rd_T42 y399 x6_1).f0))), .int .i64 (wrap64 (x396001_1 + ((rd_T42 y399 x6_1).f1)))] 42 (0, 0)) (by (with_reducible repeat (first | refine k2 ?_ _ | refine k3 ?_ | refine k1 ?_ _)); exact BK395.out) hb)
               have n5_ := am (b6 (by repeat (first | (with_reducible first | exact HB.out | apply b1 | apply b2 | apply b3 | refine b4 ?_ GE394.out | refine b4 ?_ GE395.out) | exact HB.out)) hb)
               have n6_ := am (hbox)
               have n7_ := am ((by rw [hg]; exact (b5 (by repeat (first | (with_reducible first | exact HB.out | apply b1 | apply b2 | apply b3 | refine b4 ?_ GE394.out | refine b4 ?_ GE395.out) | exact HB.out))) : w.heap.size ≤ gb410))
               have n8_ := am ((by rw [hg]; exact (b5 (by repeat (first | (with_reducible first | exact HB.out | apply b1 | apply b2 | apply b3 | refine b4 ?_ GE394.out | refine b4 ?_ GE395.out) | exact HB.out))) : w.heap.size ≤ gb410))
               have n9_ := am ((by rw [hg]; exact nl (k5 (g := gb394) (o := .cells #[.int .i64 ((rd_T42 l0 0).f0), .int .i64 ((rd_T42 l0 0).f1)] 42 (0, 0)) (by (with_reducible repeat (first | refine k2 ?_ _ | refine k3 ?_ | refine k1 ?_ _)); exact BK394.out)) : gb394 ≠ gb410))
               have n10_ := am ((by rw [hg]; exact ng (k5 (g := gb394) (o := .cells #[.int .i64 ((rd_T42 l0 0).f0), .int .i64 ((rd_T42 l0 0).f1)] 42 (0, 0)) (by (with_reducible repeat (first | refine k2 ?_ _ | refine k3 ?_ | refine k1 ?_ _)); exact BK394.out)) : gb410 ≠ gb394))
               have n11_ := am ((by rw [hg]; exact nl (k5 (g := gb395) (o := .cells #[.int .i64 (wrap64 (x396000_1 + ((rd_T42 y399 x6_1).f0))), .int .i64 (wrap64 (x396001_1 + ((rd_T42 y399 x6_1).f1)))] 42 (0, 0)) (by (with_reducible repeat (first | refine k2 ?_ _ | refine k3 ?_ | refine k1 ?_ _)); exact BK395.out)) : gb395 ≠ gb410))
               have n12_ := am ((by rw [hg]; exact ng (k5 (g := gb395) (o := .cells #[.int .i64 (wrap64 (x396000_1 + ((rd_T42 y399 x6_1).f0))), .int .i64 (wrap64 (x396001_1 + ((rd_T42 y399 x6_1).f1)))] 42 (0, 0)) (by (with_reducible repeat (first | refine k2 ?_ _ | refine k3 ?_ | refine k1 ?_ _)); exact BK395.out)) : gb410 ≠ gb395))
               clear HO398
               clear HO401
               clear HO406
               clear BK394
               clear BK395
               clear HB
               have HO398 := n0_
               have HO401 := n1_
               have HO406 := n2_
               have BK394 := n3_
               have BK395 := n4_
               have HB := n5_
               have BK410 := n6_
               have GW410 := n7_
               have GE410 := n8_
               have NB394_410 := n9_
               have NB410_394 := n10_
               have NB395_410 := n11_
               have NB410_395 := n12_
               clear n0_ n1_ n2_ n3_ n4_ n5_ n6_ n7_ n8_ n9_ n10_ n11_ n12_
               clear hb hbox hg
               refine hK.out _ _ ⟨HS0_, HS1_, HS2_, HS3_⟩ (fun hHeld => ?_)
               clear hK K
               refine norm_ (a' := ?_) ?_ ?_
               rotate_left
               ·show Act.put _ (some 10) _ = _
                simp only [Act.put, sa, i64_w, i32_w]
                rfl
               refine one_ (i := 10) (N := some 9) spec_l23Word.m27 rfl rfl (one_of HT_.out (by kernel_rfl)) (by decide) (fun K hK => ?_)
               refine box_step ?hg (N := 9) ?hd (cs := #[.int .i64 0, .int .i64 0]) (t := 42) ?hr ?_; (case hd => rfl); (case hg => rfl); (case hr => first | (go_simp; done) | (go_simp; rfl))
               intro gb409 hg w48 hbox hb
               have HS0_ := (hb.cell (World.block_lt_of_cell? _ _ (hHeld.1))).trans (hHeld.1)
               have HS1_ := (hb.cell (World.block_lt_of_cell? _ _ (hHeld.2.1))).trans (hHeld.2.1)
               have HS2_ := (hb.cell (World.block_lt_of_cell? _ _ (hHeld.2.2.1))).trans (hHeld.2.2.1)
               have HS3_ := (hb.cell (World.block_lt_of_cell? _ _ (hHeld.2.2.2))).trans (hHeld.2.2.2)
               have n0_ := am (Kd.R_below (by (with_reducible repeat (first | apply Kd.R_alloc | apply Kd.R_drewN | apply Kd.R_drew)); exact HO398.out) hb)
               have n1_ := am (Kd.R_below (Kd.R_elderB (by (with_reducible repeat (first | apply Kd.R_alloc | apply Kd.R_drewN | apply Kd.R_drew)); exact HO401.out) gb409 (Nat.le_of_eq hg.symm)) hb)
               have n2_ := am (Kd.R_below (Kd.R_elderB (by (with_reducible repeat (first | apply Kd.R_alloc | apply Kd.R_drewN | apply Kd.R_drew)); exact HO406.out) gb409 (Nat.le_of_eq hg.symm)) hb)
               have n3_ := am (k4 (g := gb394) (o := .cells #[.int .i64 ((rd_T42 l0 0).f0), .int .i64 ((rd_T42 l0 0).f1)] 42 (0, 0)) (by (with_reducible repeat (first | refine k2 ?_ _ | refine k3 ?_ | refine k1 ?_ _)); exact BK394.out) hb)
               have n4_ := am (k4 (g := gb395) (o := .cells #[.int .i64 (wrap64 (x396000_1 + ((rd_T42 y399 x6_1).f0))), .int .i64 (wrap64 (x396001_1 + ((rd_T42 y399 x6_1).f1)))] 42 (0, 0)) (by (with_reducible repeat (first | refine k2 ?_ _ | refine k3 ?_ | refine k1 ?_ _)); exact BK395.out) hb)
               have n5_ := am (k4 (g := gb410) (o := .cells #[.int .i64 0, .int .i64 0] 42 (0, 0)) (by (with_reducible repeat (first | refine k2 ?_ _ | refine k3 ?_ | refine k1 ?_ _)); exact BK410.out) hb)
               have n6_ := am (b6 (by repeat (first | (with_reducible first | exact HB.out | apply b1 | apply b2 | apply b3 | refine b4 ?_ GE394.out | refine b4 ?_ GE395.out | refine b4 ?_ GE410.out) | exact HB.out)) hb)
               have n7_ := am (hbox)
               have n8_ := am ((by rw [hg]; exact (b5 (by repeat (first | (with_reducible first | exact HB.out | apply b1 | apply b2 | apply b3 | refine b4 ?_ GE394.out | refine b4 ?_ GE395.out | refine b4 ?_ GE410.out) | exact HB.out))) : w.heap.size ≤ gb409))
               have n9_ := am ((by rw [hg]; exact (b5 (by repeat (first | (with_reducible first | exact HB.out | apply b1 | apply b2 | apply b3 | refine b4 ?_ GE394.out | refine b4 ?_ GE395.out | refine b4 ?_ GE410.out) | exact HB.out))) : w.heap.size ≤ gb409))
               have n10_ := am ((by rw [hg]; exact nl (k5 (g := gb394) (o := .cells #[.int .i64 ((rd_T42 l0 0).f0), .int .i64 ((rd_T42 l0 0).f1)] 42 (0, 0)) (by (with_reducible repeat (first | refine k2 ?_ _ | refine k3 ?_ | refine k1 ?_ _)); exact BK394.out)) : gb394 ≠ gb409))
               have n11_ := am ((by rw [hg]; exact ng (k5 (g := gb394) (o := .cells #[.int .i64 ((rd_T42 l0 0).f0), .int .i64 ((rd_T42 l0 0).f1)] 42 (0, 0)) (by (with_reducible repeat (first | refine k2 ?_ _ | refine k3 ?_ | refine k1 ?_ _)); exact BK394.out)) : gb409 ≠ gb394))
               have n12_ := am ((by rw [hg]; exact nl (k5 (g := gb395) (o := .cells #[.int .i64 (wrap64 (x396000_1 + ((rd_T42 y399 x6_1).f0))), .int .i64 (wrap64 (x396001_1 + ((rd_T42 y399 x6_1).f1)))] 42 (0, 0)) (by (with_reducible repeat (first | refine k2 ?_ _ | refine k3 ?_ | refine k1 ?_ _)); exact BK395.out)) : gb395 ≠ gb409))
               have n13_ := am ((by rw [hg]; exact ng (k5 (g := gb395) (o := .cells #[.int .i64 (wrap64 (x396000_1 + ((rd_T42 y399 x6_1).f0))), .int .i64 (wrap64 (x396001_1 + ((rd_T42 y399 x6_1).f1)))] 42 (0, 0)) (by (with_reducible repeat (first | refine k2 ?_ _ | refine k3 ?_ | refine k1 ?_ _)); exact BK395.out)) : gb409 ≠ gb395))
               have n14_ := am ((by rw [hg]; exact nl (k5 (g := gb410) (o := .cells #[.int .i64 0, .int .i64 0] 42 (0, 0)) (by (with_reducible repeat (first | refine k2 ?_ _ | refine k3 ?_ | refine k1 ?_ _)); exact BK410.out)) : gb410 ≠ gb409))
               have n15_ := am ((by rw [hg]; exact ng (k5 (g := gb410) (o := .cells #[.int .i64 0, .int .i64 0] 42 (0, 0)) (by (with_reducible repeat (first | refine k2 ?_ _ | refine k3 ?_ | refine k1 ?_ _)); exact BK410.out)) : gb409 ≠ gb410))
               clear HO398
               clear HO401
               clear HO406
               clear BK394
               clear BK395
               clear BK410
               clear HB
               have HO398 := n0_
               have HO401 := n1_
               have HO406 := n2_
               have BK394 := n3_
               have BK395 := n4_
               have BK410 := n5_
               have HB := n6_
               have BK409 := n7_
               have GW409 := n8_
               have GE409 := n9_
               have NB394_409 := n10_
               have NB409_394 := n11_
               have NB395_409 := n12_
               have NB409_395 := n13_
               have NB410_409 := n14_
               have NB409_410 := n15_
               clear n0_ n1_ n2_ n3_ n4_ n5_ n6_ n7_ n8_ n9_ n10_ n11_ n12_ n13_ n14_ n15_
               clear hb hbox hg
               refine hK.out _ _ ⟨HS0_, HS1_, HS2_, HS3_⟩ (fun hHeld => ?_)
               clear hK K
               refine norm_ (a' := ?_) ?_ ?_
               rotate_left
               ·show Act.put _ (some 9) _ = _
                simp only [Act.put, sa, i64_w, i32_w]
                rfl
               exact norm_ (by simp only [putAll, Act.put, sa]) (hCont (gb409, gb410) _ ⟨hHeld, (by (with_reducible repeat (first | apply Kd.R_alloc | apply Kd.R_drewN | apply Kd.R_drew)); exact HO398.out), (by (with_reducible repeat (first | apply Kd.R_alloc | apply Kd.R_drewN | apply Kd.R_drew)); exact Kd.R_mono HO401.out (fun _ hk => ⟨hk.1.1.2, ⟨hk.1.1.1.1.2, ⟨hk.1.1.1.2, ⟨hk.2, hk.1.2⟩⟩⟩⟩)), (by (with_reducible repeat (first | apply Kd.R_alloc | apply Kd.R_drewN | apply Kd.R_drew)); exact Kd.R_mono HO406.out (fun _ hk => ⟨hk.1.1.1.1.2, ⟨hk.1.1.1.2, ⟨hk.1.1.2, ⟨hk.2, hk.1.2⟩⟩⟩⟩)), (by (with_reducible repeat (first | refine k2 ?_ _ | refine k3 ?_ | refine k1 ?_ _)); exact BK394.out), (by (with_reducible repeat (first | refine k2 ?_ _ | refine k3 ?_ | refine k1 ?_ _)); exact BK395.out), (by (with_reducible repeat (first | refine k2 ?_ _ | refine k3 ?_ | refine k1 ?_ _)); exact BK409.out), (by (with_reducible repeat (first | refine k2 ?_ _ | refine k3 ?_ | refine k1 ?_ _)); exact BK410.out), GW409.out, GE409.out, NB394_409.out, NB409_394.out, NB395_409.out, NB409_395.out, NB410_409.out, NB409_410.out, GW410.out, GE410.out, NB394_410.out, NB410_394.out, NB395_410.out, NB410_395.out, (by repeat (first | (with_reducible first | exact HB.out | apply b1 | apply b2 | apply b3 | refine b4 ?_ GE394.out | refine b4 ?_ GE395.out | refine b4 ?_ GE410.out | refine b4 ?_ GE409.out) | exact HB.out))⟩)
             rintro ⟨gb409, gb410⟩ w49 ⟨hS_, h0_, h1_, h2_, h3_, h4_, h5_, h6_, h7_, h8_, h9_, h10_, h11_, h12_, h13_, h14_, h15_, h16_, h17_, h18_, h19_, h20_, h21_⟩
             have n0_ : Aside0 (Kd.R (Kd.int .u8) 5 w49 w.heap.size (fun _ => True) v397 y396) := ⟨h0_⟩
             have n1_ : Aside0 (Kd.R k42 42 w49 w.heap.size (fun k_ => some k_ ≠ (.slice (some ad407) y404.length co46 : Value).ownBlock ∧ k_ ≠ gb394 ∧ k_ ≠ gb395 ∧ k_ ≠ gb409 ∧ k_ ≠ gb410) (.slice (some ad402) y399.length co37) y399) := ⟨h1_⟩
             have n2_ : Aside0 (Kd.R k42 42 w49 w.heap.size (fun k_ => some k_ ≠ (.slice (some ad402) y399.length co37 : Value).ownBlock ∧ k_ ≠ gb394 ∧ k_ ≠ gb395 ∧ k_ ≠ gb409 ∧ k_ ≠ gb410) (.slice (some ad407) y404.length co46) y404) := ⟨h2_⟩
             have n3_ : Aside0 (w49.heap[gb394]? = some (.cells #[.int .i64 ((rd_T42 l0 0).f0), .int .i64 ((rd_T42 l0 0).f1)] 42 (0, 0))) := ⟨h3_⟩
             have n4_ : Aside0 (w49.heap[gb395]? = some (.cells #[.int .i64 (wrap64 (x396000_1 + ((rd_T42 y399 x6_1).f0))), .int .i64 (wrap64 (x396001_1 + ((rd_T42 y399 x6_1).f1)))] 42 (0, 0))) := ⟨h4_⟩
             have n5_ : Aside0 (w49.heap[gb409]? = some (.cells #[.int .i64 0, .int .i64 0] 42 (0, 0))) := ⟨h5_⟩
             have n6_ : Aside0 (w49.heap[gb410]? = some (.cells #[.int .i64 0, .int .i64 0] 42 (0, 0))) := ⟨h6_⟩
             have n7_ : Aside0 (w.heap.size ≤ gb409) := ⟨h7_⟩
             have n8_ : Aside0 (w.heap.size ≤ gb409) := ⟨h8_⟩
             have n9_ : Aside0 (gb394 ≠ gb409) := ⟨h9_⟩
             have n10_ : Aside0 (gb409 ≠ gb394) := ⟨h10_⟩
             have n11_ : Aside0 (gb395 ≠ gb409) := ⟨h11_⟩
             have n12_ : Aside0 (gb409 ≠ gb395) := ⟨h12_⟩
             have n13_ : Aside0 (gb410 ≠ gb409) := ⟨h13_⟩
             have n14_ : Aside0 (gb409 ≠ gb410) := ⟨h14_⟩
             have n15_ : Aside0 (w.heap.size ≤ gb410) := ⟨h15_⟩
             have n16_ : Aside0 (w.heap.size ≤ gb410) := ⟨h16_⟩
             have n17_ : Aside0 (gb394 ≠ gb410) := ⟨h17_⟩
             have n18_ : Aside0 (gb410 ≠ gb394) := ⟨h18_⟩
             have n19_ : Aside0 (gb395 ≠ gb410) := ⟨h19_⟩
             have n20_ : Aside0 (gb410 ≠ gb395) := ⟨h20_⟩
             have n21_ : Aside0 (Below w.heap.size w w49) := ⟨h21_⟩
             clear HO398
             clear HO401
             clear HO406
             clear BK394
             clear BK395
             clear HB
             clear h0_ h1_ h2_ h3_ h4_ h5_ h6_ h7_ h8_ h9_ h10_ h11_ h12_ h13_ h14_ h15_ h16_ h17_ h18_ h19_ h20_ h21_
             have HO398 := n0_
             have HO401 := n1_
             have HO406 := n2_
             have BK394 := n3_
             have BK395 := n4_
             have BK409 := n5_
             have BK410 := n6_
             have GW409 := n7_
             have GE409 := n8_
             have NB394_409 := n9_
             have NB409_394 := n10_
             have NB395_409 := n11_
             have NB409_395 := n12_
             have NB410_409 := n13_
             have NB409_410 := n14_
             have GW410 := n15_
             have GE410 := n16_
             have NB394_410 := n17_
             have NB410_394 := n18_
             have NB395_410 := n19_
             have NB410_395 := n20_
             have HB := n21_
             clear n0_ n1_ n2_ n3_ n4_ n5_ n6_ n7_ n8_ n9_ n10_ n11_ n12_ n13_ n14_ n15_ n16_ n17_ n18_ n19_ n20_ n21_
             have hHeld : w49.cell? (ad407.add ((x6_1).toNat * 2)) = some (.int .i64 ((rd_T42 y404 x6_1).f0)) ∧ w49.cell? ⟨(ad407.add ((x6_1).toNat * 2)).block, (ad407.add ((x6_1).toNat * 2)).off + 1, none⟩ = some (.int .i64 ((rd_T42 y404 x6_1).f1)) ∧ w49.cell? (ad407.add (((ji28)).toNat * 2)) = some (.int .i64 ((rd_T42 y404 (ji28)).f0)) ∧ w49.cell? ⟨(ad407.add (((ji28)).toNat * 2)).block, (ad407.add (((ji28)).toNat * 2)).off + 1, none⟩ = some (.int .i64 ((rd_T42 y404 (ji28)).f1)) := hS_
             refine norm_ (a' := ?_) ?_ ?_
             rotate_left
             ·simp only [putAll, Act.put, sa]
              rfl
             refine one_ (i := 12) (N := none) spec_l23Word.m28 rfl rfl (one_of HT_.out (by kernel_rfl)) (by decide) (fun K hK => ?_)
             have hs50 : w49.cell? ⟨gb409, 0, none⟩ = some (.int .i64 0) := (kc BK409.out 0).trans rfl
             have hfs50 := kf BK409.out 0
             have hns50_0 := NB394_409.out
             have hns50_1 := NB395_409.out
             have hns50_3 := NB410_409.out
             have hms50_0 := NB409_394.out
             have hms50_1 := NB409_395.out
             have hms50_3 := NB409_410.out
             have hs51 : w49.cell? ⟨gb409, 1, none⟩ = some (.int .i64 0) := (kc BK409.out 1).trans rfl
             have hfs51 := kf BK409.out 1
             have hns51_0 := NB394_409.out
             have hns51_1 := NB395_409.out
             have hns51_3 := NB410_409.out
             have hms51_0 := NB409_394.out
             have hms51_1 := NB409_395.out
             have hms51_3 := NB409_410.out
             refine skip_ (w1 := ?_) (by rfl) rfl ?_ ?_
             rotate_left
             ·go_simp
              rfl
             refine hK.out _ _ ⟨((cell_far (p := ⟨gb409, _, none⟩) (by first | exact Kd.own_blk (Kd.R_away HO406.out (fun _ hk => hk.2.2.2.1)) | (rw [add_block]; exact Kd.own_blk (Kd.R_away HO406.out (fun _ hk => hk.2.2.2.1))) | (show (Addr.add _ _).block ≠ _; rw [add_block]; exact Kd.own_blk (Kd.R_away HO406.out (fun _ hk => hk.2.2.2.1))) | (dsimp only; exact Kd.own_blk (Kd.R_away HO406.out (fun _ hk => hk.2.2.2.1)))) _).trans (((cell_far (p := ⟨gb409, _, none⟩) (by first | exact Kd.own_blk (Kd.R_away HO406.out (fun _ hk => hk.2.2.2.1)) | (rw [add_block]; exact Kd.own_blk (Kd.R_away HO406.out (fun _ hk => hk.2.2.2.1))) | (show (Addr.add _ _).block ≠ _; rw [add_block]; exact Kd.own_blk (Kd.R_away HO406.out (fun _ hk => hk.2.2.2.1))) | (dsimp only; exact Kd.own_blk (Kd.R_away HO406.out (fun _ hk => hk.2.2.2.1)))) _).trans (hHeld.1)))), ((cell_far (p := ⟨gb409, _, none⟩) (by first | exact Kd.own_blk (Kd.R_away HO406.out (fun _ hk => hk.2.2.2.1)) | (rw [add_block]; exact Kd.own_blk (Kd.R_away HO406.out (fun _ hk => hk.2.2.2.1))) | (show (Addr.add _ _).block ≠ _; rw [add_block]; exact Kd.own_blk (Kd.R_away HO406.out (fun _ hk => hk.2.2.2.1))) | (dsimp only; exact Kd.own_blk (Kd.R_away HO406.out (fun _ hk => hk.2.2.2.1)))) _).trans (((cell_far (p := ⟨gb409, _, none⟩) (by first | exact Kd.own_blk (Kd.R_away HO406.out (fun _ hk => hk.2.2.2.1)) | (rw [add_block]; exact Kd.own_blk (Kd.R_away HO406.out (fun _ hk => hk.2.2.2.1))) | (show (Addr.add _ _).block ≠ _; rw [add_block]; exact Kd.own_blk (Kd.R_away HO406.out (fun _ hk => hk.2.2.2.1))) | (dsimp only; exact Kd.own_blk (Kd.R_away HO406.out (fun _ hk => hk.2.2.2.1)))) _).trans (hHeld.2.1)))), ((cell_far (p := ⟨gb409, _, none⟩) (by first | exact Kd.own_blk (Kd.R_away HO406.out (fun _ hk => hk.2.2.2.1)) | (rw [add_block]; exact Kd.own_blk (Kd.R_away HO406.out (fun _ hk => hk.2.2.2.1))) | (show (Addr.add _ _).block ≠ _; rw [add_block]; exact Kd.own_blk (Kd.R_away HO406.out (fun _ hk => hk.2.2.2.1))) | (dsimp only; exact Kd.own_blk (Kd.R_away HO406.out (fun _ hk => hk.2.2.2.1)))) _).trans (((cell_far (p := ⟨gb409, _, none⟩) (by first | exact Kd.own_blk (Kd.R_away HO406.out (fun _ hk => hk.2.2.2.1)) | (rw [add_block]; exact Kd.own_blk (Kd.R_away HO406.out (fun _ hk => hk.2.2.2.1))) | (show (Addr.add _ _).block ≠ _; rw [add_block]; exact Kd.own_blk (Kd.R_away HO406.out (fun _ hk => hk.2.2.2.1))) | (dsimp only; exact Kd.own_blk (Kd.R_away HO406.out (fun _ hk => hk.2.2.2.1)))) _).trans (hHeld.2.2.1)))), ((cell_far (p := ⟨gb409, _, none⟩) (by first | exact Kd.own_blk (Kd.R_away HO406.out (fun _ hk => hk.2.2.2.1)) | (rw [add_block]; exact Kd.own_blk (Kd.R_away HO406.out (fun _ hk => hk.2.2.2.1))) | (show (Addr.add _ _).block ≠ _; rw [add_block]; exact Kd.own_blk (Kd.R_away HO406.out (fun _ hk => hk.2.2.2.1))) | (dsimp only; exact Kd.own_blk (Kd.R_away HO406.out (fun _ hk => hk.2.2.2.1)))) _).trans (((cell_far (p := ⟨gb409, _, none⟩) (by first | exact Kd.own_blk (Kd.R_away HO406.out (fun _ hk => hk.2.2.2.1)) | (rw [add_block]; exact Kd.own_blk (Kd.R_away HO406.out (fun _ hk => hk.2.2.2.1))) | (show (Addr.add _ _).block ≠ _; rw [add_block]; exact Kd.own_blk (Kd.R_away HO406.out (fun _ hk => hk.2.2.2.1))) | (dsimp only; exact Kd.own_blk (Kd.R_away HO406.out (fun _ hk => hk.2.2.2.1)))) _).trans (hHeld.2.2.2))))⟩ (fun hHeld => ?_)
             clear hK K
             refine one_ (i := 13) (N := none) spec_l23Word.m34 rfl rfl (one_of HT_.out (by kernel_rfl)) (by decide) (fun K hK => ?_)
             have hs52 : w49.cell? ⟨gb410, 0, none⟩ = some (.int .i64 0) := (kc BK410.out 0).trans rfl
             have hfs52 := kf BK410.out 0
             have hns52_0 := NB394_410.out
             have hns52_1 := NB395_410.out
             have hns52_2 := NB409_410.out
             have hms52_0 := NB410_394.out
             have hms52_1 := NB410_395.out
             have hms52_2 := NB410_409.out
             have hs53 : w49.cell? ⟨gb410, 1, none⟩ = some (.int .i64 0) := (kc BK410.out 1).trans rfl
             have hfs53 := kf BK410.out 1
             have hns53_0 := NB394_410.out
             have hns53_1 := NB395_410.out
             have hns53_2 := NB409_410.out
             have hms53_0 := NB410_394.out
             have hms53_1 := NB410_395.out
             have hms53_2 := NB410_409.out
             refine skip_ (w1 := ?_) (by rfl) rfl ?_ ?_
             rotate_left
             ·go_simp
              rfl
             refine hK.out _ _ ⟨((cell_far (p := ⟨gb410, _, none⟩) (by first | exact Kd.own_blk (Kd.R_away HO406.out (fun _ hk => hk.2.2.2.2)) | (rw [add_block]; exact Kd.own_blk (Kd.R_away HO406.out (fun _ hk => hk.2.2.2.2))) | (show (Addr.add _ _).block ≠ _; rw [add_block]; exact Kd.own_blk (Kd.R_away HO406.out (fun _ hk => hk.2.2.2.2))) | (dsimp only; exact Kd.own_blk (Kd.R_away HO406.out (fun _ hk => hk.2.2.2.2)))) _).trans (((cell_far (p := ⟨gb410, _, none⟩) (by first | exact Kd.own_blk (Kd.R_away HO406.out (fun _ hk => hk.2.2.2.2)) | (rw [add_block]; exact Kd.own_blk (Kd.R_away HO406.out (fun _ hk => hk.2.2.2.2))) | (show (Addr.add _ _).block ≠ _; rw [add_block]; exact Kd.own_blk (Kd.R_away HO406.out (fun _ hk => hk.2.2.2.2))) | (dsimp only; exact Kd.own_blk (Kd.R_away HO406.out (fun _ hk => hk.2.2.2.2)))) _).trans (hHeld.1)))), ((cell_far (p := ⟨gb410, _, none⟩) (by first | exact Kd.own_blk (Kd.R_away HO406.out (fun _ hk => hk.2.2.2.2)) | (rw [add_block]; exact Kd.own_blk (Kd.R_away HO406.out (fun _ hk => hk.2.2.2.2))) | (show (Addr.add _ _).block ≠ _; rw [add_block]; exact Kd.own_blk (Kd.R_away HO406.out (fun _ hk => hk.2.2.2.2))) | (dsimp only; exact Kd.own_blk (Kd.R_away HO406.out (fun _ hk => hk.2.2.2.2)))) _).trans (((cell_far (p := ⟨gb410, _, none⟩) (by first | exact Kd.own_blk (Kd.R_away HO406.out (fun _ hk => hk.2.2.2.2)) | (rw [add_block]; exact Kd.own_blk (Kd.R_away HO406.out (fun _ hk => hk.2.2.2.2))) | (show (Addr.add _ _).block ≠ _; rw [add_block]; exact Kd.own_blk (Kd.R_away HO406.out (fun _ hk => hk.2.2.2.2))) | (dsimp only; exact Kd.own_blk (Kd.R_away HO406.out (fun _ hk => hk.2.2.2.2)))) _).trans (hHeld.2.1)))), ((cell_far (p := ⟨gb410, _, none⟩) (by first | exact Kd.own_blk (Kd.R_away HO406.out (fun _ hk => hk.2.2.2.2)) | (rw [add_block]; exact Kd.own_blk (Kd.R_away HO406.out (fun _ hk => hk.2.2.2.2))) | (show (Addr.add _ _).block ≠ _; rw [add_block]; exact Kd.own_blk (Kd.R_away HO406.out (fun _ hk => hk.2.2.2.2))) | (dsimp only; exact Kd.own_blk (Kd.R_away HO406.out (fun _ hk => hk.2.2.2.2)))) _).trans (((cell_far (p := ⟨gb410, _, none⟩) (by first | exact Kd.own_blk (Kd.R_away HO406.out (fun _ hk => hk.2.2.2.2)) | (rw [add_block]; exact Kd.own_blk (Kd.R_away HO406.out (fun _ hk => hk.2.2.2.2))) | (show (Addr.add _ _).block ≠ _; rw [add_block]; exact Kd.own_blk (Kd.R_away HO406.out (fun _ hk => hk.2.2.2.2))) | (dsimp only; exact Kd.own_blk (Kd.R_away HO406.out (fun _ hk => hk.2.2.2.2)))) _).trans (hHeld.2.2.1)))), ((cell_far (p := ⟨gb410, _, none⟩) (by first | exact Kd.own_blk (Kd.R_away HO406.out (fun _ hk => hk.2.2.2.2)) | (rw [add_block]; exact Kd.own_blk (Kd.R_away HO406.out (fun _ hk => hk.2.2.2.2))) | (show (Addr.add _ _).block ≠ _; rw [add_block]; exact Kd.own_blk (Kd.R_away HO406.out (fun _ hk => hk.2.2.2.2))) | (dsimp only; exact Kd.own_blk (Kd.R_away HO406.out (fun _ hk => hk.2.2.2.2)))) _).trans (((cell_far (p := ⟨gb410, _, none⟩) (by first | exact Kd.own_blk (Kd.R_away HO406.out (fun _ hk => hk.2.2.2.2)) | (rw [add_block]; exact Kd.own_blk (Kd.R_away HO406.out (fun _ hk => hk.2.2.2.2))) | (show (Addr.add _ _).block ≠ _; rw [add_block]; exact Kd.own_blk (Kd.R_away HO406.out (fun _ hk => hk.2.2.2.2))) | (dsimp only; exact Kd.own_blk (Kd.R_away HO406.out (fun _ hk => hk.2.2.2.2)))) _).trans (hHeld.2.2.2))))⟩ (fun hHeld => ?_)
             clear hK K
             refine done_ (done_of HT_.out (by kernel_rfl)) ?_
             have hnb54 := NB409_394.out
             have hnc54 := NB394_409.out
             have hnb55 := NB409_395.out
             have hnc55 := NB395_409.out
             have hnb56 := NB409_410.out
             have hnc56 := NB410_409.out
             have hcz57_0 : w49.cell? ⟨gb409, 0, none⟩ = some (.int .i64 0) := (kc BK409.out 0).trans rfl
             have hcz57_1 : w49.cell? ⟨gb409, 1, none⟩ = some (.int .i64 0) := (kc BK409.out 1).trans rfl
             have hfz57_0 := kf BK409.out 0
             have hfz57_1 := kf BK409.out 1
             try go_wp2_with (first | ((with_reducible refine gate_callee (f := 70) rfl ?_); refine goesL_ (some 82) rfl rfl Tryd.func70 (by kernel_rfl) rfl #[.slice (some ad393) l0.length c0, .agg #[.int .i64 ((rd_T42 y404 x6_1).f0), .int .i64 ((rd_T42 y404 x6_1).f1)]] rfl (by (try simp only [List.map_toArray, List.map_cons, List.map_nil]); first | done | rfl | (simp only [List.length_drop, List.length_take]; rfl)) ?_; (with_reducible refine (spec_l02Index.calls k1 _ _ l0 ((rd_T42 y404 x6_1).f0) ((rd_T42 y404 x6_1).f1) t411 _ ?side1 ?side2 A31.out).mono ?_); (case side1 => exact Kd.C_below HR0.out (by repeat (first | (with_reducible first | exact HB.out | apply b1 | apply b2 | apply b3 | refine b4 ?_ GE394.out | refine b4 ?_ GE395.out | refine b4 ?_ GE409.out | refine b4 ?_ GE410.out) | exact HB.out))); (case side2 => exact HC0.out); rintro e w58 ⟨rfl, hb⟩; refine ⟨_, rfl, ?_⟩; have n0_ := am (Kd.R_below (by (with_reducible repeat (first | apply Kd.R_alloc | apply Kd.R_drewN | apply Kd.R_drew)); exact (Kd.R_mono (Kd.R_mono (Kd.R_far (p := ⟨gb410, 1, none⟩) (Kd.R_far (p := ⟨gb410, 0, none⟩) (Kd.R_far (p := ⟨gb409, 1, none⟩) (Kd.R_far (p := ⟨gb409, 0, none⟩) (Kd.R_types (Kd.R_types HO398.out BK409.out (by decide)) BK410.out (by decide)) (fun _ hk => hk.1.2) (.int .i64 ((rd_T42 y404 x6_1).f0))) (fun _ hk => hk.1.2) (.int .i64 ((rd_T42 y404 x6_1).f1))) (fun _ hk => hk.2) (.int .i64 ((rd_T42 y404 (ji28)).f0))) (fun _ hk => hk.2) (.int .i64 ((rd_T42 y404 (ji28)).f1))) (fun _ h_ => h_.1)) (fun _ h_ => h_.1))) hb); have n1_ := am (Kd.R_below (by (with_reducible repeat (first | apply Kd.R_alloc | apply Kd.R_drewN | apply Kd.R_drew)); exact (Kd.R_mono (Kd.R_mono (Kd.R_far (p := ⟨gb410, 1, none⟩) (Kd.R_far (p := ⟨gb410, 0, none⟩) (Kd.R_far (p := ⟨gb409, 1, none⟩) (Kd.R_far (p := ⟨gb409, 0, none⟩) (Kd.R_mono (Kd.R_mono HO401.out (fun k_ hk => (⟨hk, hk.2.2.2.1⟩ : _ ∧ k_ ≠ gb409))) (fun k_ hk => (⟨hk, hk.1.2.2.2.2⟩ : _ ∧ k_ ≠ gb410))) (fun _ hk => hk.1.2) (.int .i64 ((rd_T42 y404 x6_1).f0))) (fun _ hk => hk.1.2) (.int .i64 ((rd_T42 y404 x6_1).f1))) (fun _ hk => hk.2) (.int .i64 ((rd_T42 y404 (ji28)).f0))) (fun _ hk => hk.2) (.int .i64 ((rd_T42 y404 (ji28)).f1))) (fun _ h_ => h_.1)) (fun _ h_ => h_.1))) hb); have n2_ := am (Kd.R_below (by (with_reducible repeat (first | apply Kd.R_alloc | apply Kd.R_drewN | apply Kd.R_drew)); exact (Kd.R_mono (Kd.R_mono (Kd.R_far (p := ⟨gb410, 1, none⟩) (Kd.R_far (p := ⟨gb410, 0, none⟩) (Kd.R_far (p := ⟨gb409, 1, none⟩) (Kd.R_far (p := ⟨gb409, 0, none⟩) (Kd.R_mono (Kd.R_mono HO406.out (fun k_ hk => (⟨hk, hk.2.2.2.1⟩ : _ ∧ k_ ≠ gb409))) (fun k_ hk => (⟨hk, hk.1.2.2.2.2⟩ : _ ∧ k_ ≠ gb410))) (fun _ hk => hk.1.2) (.int .i64 ((rd_T42 y404 x6_1).f0))) (fun _ hk => hk.1.2) (.int .i64 ((rd_T42 y404 x6_1).f1))) (fun _ hk => hk.2) (.int .i64 ((rd_T42 y404 (ji28)).f0))) (fun _ hk => hk.2) (.int .i64 ((rd_T42 y404 (ji28)).f1))) (fun _ h_ => h_.1)) (fun _ h_ => h_.1))) hb); have n3_ := am (k4 (g := gb394) (o := .cells #[.int .i64 ((rd_T42 l0 0).f0), .int .i64 ((rd_T42 l0 0).f1)] 42 (0, 0)) (by (with_reducible repeat (first | refine k2 ?_ _ | refine k3 ?_ | refine k1 ?_ _)); refine blk_far ?_ NB394_410.out _; (with_reducible repeat (first | refine k2 ?_ _ | refine k3 ?_ | refine k1 ?_ _)); refine blk_far ?_ NB394_410.out _; (with_reducible repeat (first | refine k2 ?_ _ | refine k3 ?_ | refine k1 ?_ _)); refine blk_far ?_ NB394_409.out _; (with_reducible repeat (first | refine k2 ?_ _ | refine k3 ?_ | refine k1 ?_ _)); refine blk_far ?_ NB394_409.out _; (with_reducible repeat (first | refine k2 ?_ _ | refine k3 ?_ | refine k1 ?_ _)); exact BK394.out) hb); have n4_ := am (k4 (g := gb395) (o := .cells #[.int .i64 (wrap64 (x396000_1 + ((rd_T42 y399 x6_1).f0))), .int .i64 (wrap64 (x396001_1 + ((rd_T42 y399 x6_1).f1)))] 42 (0, 0)) (by (with_reducible repeat (first | refine k2 ?_ _ | refine k3 ?_ | refine k1 ?_ _)); refine blk_far ?_ NB395_410.out _; (with_reducible repeat (first | refine k2 ?_ _ | refine k3 ?_ | refine k1 ?_ _)); refine blk_far ?_ NB395_410.out _; (with_reducible repeat (first | refine k2 ?_ _ | refine k3 ?_ | refine k1 ?_ _)); refine blk_far ?_ NB395_409.out _; (with_reducible repeat (first | refine k2 ?_ _ | refine k3 ?_ | refine k1 ?_ _)); refine blk_far ?_ NB395_409.out _; (with_reducible repeat (first | refine k2 ?_ _ | refine k3 ?_ | refine k1 ?_ _)); exact BK395.out) hb); have n5_ := am (k4 (g := gb409) (o := .cells #[.int .i64 ((rd_T42 y404 x6_1).f0), .int .i64 ((rd_T42 y404 x6_1).f1)] 42 (0, 0)) (by (with_reducible repeat (first | refine k2 ?_ _ | refine k3 ?_ | refine k1 ?_ _)); refine blk_far ?_ NB409_410.out _; (with_reducible repeat (first | refine k2 ?_ _ | refine k3 ?_ | refine k1 ?_ _)); refine blk_far ?_ NB409_410.out _; (with_reducible repeat (first | refine k2 ?_ _ | refine k3 ?_ | refine k1 ?_ _)); refine blk_put (cs := #[.int .i64 ((rd_T42 y404 x6_1).f0), .int .i64 0]) ?_ 1 _ rfl; (with_reducible repeat (first | refine k2 ?_ _ | refine k3 ?_ | refine k1 ?_ _)); refine blk_put (cs := #[.int .i64 0, .int .i64 0]) ?_ 0 _ rfl; (with_reducible repeat (first | refine k2 ?_ _ | refine k3 ?_ | refine k1 ?_ _)); exact BK409.out) hb); have n6_ := am (k4 (g := gb410) (o := .cells #[.int .i64 ((rd_T42 y404 (ji28)).f0), .int .i64 ((rd_T42 y404 (ji28)).f1)] 42 (0, 0)) (by (with_reducible repeat (first | refine k2 ?_ _ | refine k3 ?_ | refine k1 ?_ _)); refine blk_put (cs := #[.int .i64 ((rd_T42 y404 (ji28)).f0), .int .i64 0]) ?_ 1 _ rfl; (with_reducible repeat (first | refine k2 ?_ _ | refine k3 ?_ | refine k1 ?_ _)); refine blk_put (cs := #[.int .i64 0, .int .i64 0]) ?_ 0 _ rfl; (with_reducible repeat (first | refine k2 ?_ _ | refine k3 ?_ | refine k1 ?_ _)); refine blk_far ?_ NB410_409.out _; (with_reducible repeat (first | refine k2 ?_ _ | refine k3 ?_ | refine k1 ?_ _)); refine blk_far ?_ NB410_409.out _; (with_reducible repeat (first | refine k2 ?_ _ | refine k3 ?_ | refine k1 ?_ _)); exact BK410.out) hb); have n7_ := am (b6 (by repeat (first | (with_reducible first | exact HB.out | apply b1 | apply b2 | apply b3 | refine b4 ?_ GE394.out | refine b4 ?_ GE395.out | refine b4 ?_ GE409.out | refine b4 ?_ GE410.out) | exact HB.out)) hb); clear HO398; clear HO401; clear HO406; clear BK394; clear BK395; clear BK409; clear BK410; clear HB; have HO398 := n0_; have HO401 := n1_; have HO406 := n2_; have BK394 := n3_; have BK395 := n4_; have BK409 := n5_; have BK410 := n6_; have HB := n7_; clear n0_ n1_ n2_ n3_ n4_ n5_ n6_ n7_; (try clear hb); (try clear hb2); (try clear hk); (try clear hi)))
             go_roundg k1
             case measure => have := HK1.out; omega
             case rel => exact ⟨(y396), (Int.tmod (wrap64 (x6_1 + 3)) 4), (wrap64 (x396000_1 + ((rd_T42 y399 x6_1).f0))), (wrap64 (x396001_1 + ((rd_T42 y399 x6_1).f1))), (by first | rfl | (simp; done) | (simp [*]; done)), H', ⟨by have := HK1.out; omega⟩, ⟨by (with_reducible repeat (first | apply Kd.R_alloc | apply Kd.R_drewN | apply Kd.R_drew)); exact HO398.out⟩, ⟨by (with_reducible repeat (first | refine k2 ?_ _ | refine k3 ?_ | refine k1 ?_ _)); exact BK394.out⟩, ⟨by (with_reducible repeat (first | refine k2 ?_ _ | refine k3 ?_ | refine k1 ?_ _)); exact BK395.out⟩, ⟨by repeat (first | (with_reducible first | exact HB.out | apply b1 | apply b2 | apply b3 | refine b4 ?_ GE394.out | refine b4 ?_ GE395.out | refine b4 ?_ GE409.out | refine b4 ?_ GE410.out) | exact HB.out)⟩⟩
            ·rw [if_neg c32] at H
             have c32b0 : decide (0 ≤ t411) = false := decide_eq_false c32
             clear c32
             replace H := ob H
             obtain ⟨t412, A590, H⟩ := H
             replace H : (if t412 < 0 then (spec_l23Word.l0 k1 l0 y396 ji28 ((rd_T42 l0 0).f0) ((rd_T42 l0 0).f1) (wrap64 (x396000_1 + ((rd_T42 y399 x6_1).f0))) (wrap64 (x396001_1 + ((rd_T42 y399 x6_1).f1)))) else (spec_l23Word.l0 k1 l0 y396 x6_1 ((rd_T42 l0 0).f0) ((rd_T42 l0 0).f1) (wrap64 (x396000_1 + ((rd_T42 y399 x6_1).f0))) (wrap64 (x396001_1 + ((rd_T42 y399 x6_1).f1))))) = some r := H
             have A59 := am A590
             clear A590
             by_cases c60 : t412 < 0
             ·rw [if_pos c60] at H
              have c60b0 : decide (t412 < 0) = true := decide_eq_true c60
              clear c60
              have H' := am H
              clear H
              have p12 : 0 ≤ (x6_1 : Int) := of_decide_eq_true (by first | (with_reducible assumption) | assumption)
              have q12 : x6_1 < (4 : Int) := of_decide_eq_true (by first | (with_reducible assumption) | assumption)
              have hx12 := bt_at (⟨#[114, 100, 108, 117]⟩ : ByteArray) x6_1
              replace p12 := eq_true p12
              replace q12 := eq_true q12
              try go_wp2_with (first | ((with_reducible refine gate_builtin (b := .append) (xs := #[.tmp 16, .tmp 19]) rfl ?_); at_builtin; refine Kd.R_append (Kd.int .u8) (w0 := w) w.heap.size rfl (.tmp 16) (.tmp 19) 32 5 (.int .u8 0) 1 rfl Tryd.underlying32 info5 rfl (by decide) (by omega) u3 x3_1 (bt (⟨#[114, 100, 108, 117]⟩ : ByteArray) x6_1) [.int .u8 (bt (⟨#[114, 100, 108, 117]⟩ : ByteArray) x6_1)] (fun _ => True) (fun _ => False) rfl rfl ?aP (fun _ hk => hk.elim) ?aF ?aO ?aB ?aS ?aL ?_; (case aP => exact rfl); (case aB => exact (by repeat (first | (with_reducible first | exact HB.out | apply b1 | apply b2 | apply b3 | refine b4 ?_ GE394.out | refine b4 ?_ GE395.out) | exact HB.out))); (case aF => exact (fun _ _ => trivial)); (case aO => exact (by (with_reducible repeat (first | apply Kd.R_alloc | apply Kd.R_drewN | apply Kd.R_drew)); exact HO_3.out)); (case aS => exact (b5 (by repeat (first | (with_reducible first | exact HB.out | apply b1 | apply b2 | apply b3 | refine b4 ?_ GE394.out | refine b4 ?_ GE395.out) | exact HB.out)))); (case aL => have := LMc13.out; omega); intro v397 w61 ho hb hg hat; rw [← Ny396.out] at ho; have n0_ := am (blk_grown (g := gb394) (o := .cells #[.int .i64 ((rd_T42 l0 0).f0), .int .i64 ((rd_T42 l0 0).f1)] 42 (0, 0)) (by (with_reducible repeat (first | refine k2 ?_ _ | refine k3 ?_ | refine k1 ?_ _)); exact BK394.out) hg (Kd.R_ne HO_3.out BK394.out (by decide))); have n1_ := am (blk_grown (g := gb395) (o := .cells #[.int .i64 x396000_1, .int .i64 x396001_1] 42 (0, 0)) (by (with_reducible repeat (first | refine k2 ?_ _ | refine k3 ?_ | refine k1 ?_ _)); exact BK395.out) hg (Kd.R_ne HO_3.out BK395.out (by decide))); have n2_ := am (hb); have n3_ := am (ho); clear BK394; clear BK395; clear HB; clear HO_3; have BK394 := n0_; have BK395 := n1_; have HB := n2_; have HO398 := n3_; clear n0_ n1_ n2_ n3_; clear ho hb hg hat) | ((with_reducible refine gate_dst (N := 25) rfl ?_); refine Kd.R_lit k42 _ 42 ?hg (N := 25) ?hd (xs := ([(⟨1, 0⟩ : S42), (⟨0, 1⟩ : S42), (⟨(-1), 0⟩ : S42), (⟨0, (-1)⟩ : S42)] : List (S42))) (inner := [.int .i64 1, .int .i64 0, .int .i64 0, .int .i64 1, .int .i64 (-1), .int .i64 0, .int .i64 0, .int .i64 (-1)]) (ok := fun _ => True) (okp := fun _ => True) ?hr ?hp (fun _ hk => hk) trivial (Below.refl _ _) (Nat.le_refl _) (by simp) ?_; (case hd => rfl); (case hg => rfl); (case hr => first | (go_simp; done) | (go_simp; rfl)); (case hp => exact (Reps.c2 (show Kd.M k42 _ _ _ (⟨1, 0⟩ : S42) [.int .i64 1, .int .i64 0] from (k42_mkM _ _ _ (⟨1, 0⟩ : S42) )) (Reps.c2 (show Kd.M k42 _ _ _ (⟨0, 1⟩ : S42) [.int .i64 0, .int .i64 1] from (k42_mkM _ _ _ (⟨0, 1⟩ : S42) )) (Reps.c2 (show Kd.M k42 _ _ _ (⟨(-1), 0⟩ : S42) [.int .i64 (-1), .int .i64 0] from (k42_mkM _ _ _ (⟨(-1), 0⟩ : S42) )) (Reps.c2 (show Kd.M k42 _ _ _ (⟨0, (-1)⟩ : S42) [.int .i64 0, .int .i64 (-1)] from (k42_mkM _ _ _ (⟨0, (-1)⟩ : S42) )) (Reps.none _ _)))))); intro v400 w62 ho63 hb hg_ hnew_; clear hg_ hnew_; (first | rw [← Ny399.out] at ho63 | (simp only [Int.reduceToNat] at ho63; rw [← Ny399.out] at ho63)); have n0_ := am (Kd.R_below (by (with_reducible repeat (first | apply Kd.R_alloc | apply Kd.R_drewN | apply Kd.R_drew)); exact HO398.out) hb); have n1_ := am (Kd.R_lower (Kd.R_newB (Kd.R_newB ho63 (g := gb394) (o := .cells #[.int .i64 ((rd_T42 l0 0).f0), .int .i64 ((rd_T42 l0 0).f1)] 42 (0, 0)) (by (with_reducible repeat (first | refine k2 ?_ _ | refine k3 ?_ | refine k1 ?_ _)); exact BK394.out)) (g := gb395) (o := .cells #[.int .i64 x396000_1, .int .i64 x396001_1] 42 (0, 0)) (by (with_reducible repeat (first | refine k2 ?_ _ | refine k3 ?_ | refine k1 ?_ _)); exact BK395.out)) (b5 (by repeat (first | (with_reducible first | exact HB.out | apply b1 | apply b2 | apply b3 | refine b4 ?_ GE394.out | refine b4 ?_ GE395.out) | exact HB.out)))); have n2_ := am (k4 (g := gb394) (o := .cells #[.int .i64 ((rd_T42 l0 0).f0), .int .i64 ((rd_T42 l0 0).f1)] 42 (0, 0)) (by (with_reducible repeat (first | refine k2 ?_ _ | refine k3 ?_ | refine k1 ?_ _)); exact BK394.out) hb); have n3_ := am (k4 (g := gb395) (o := .cells #[.int .i64 x396000_1, .int .i64 x396001_1] 42 (0, 0)) (by (with_reducible repeat (first | refine k2 ?_ _ | refine k3 ?_ | refine k1 ?_ _)); exact BK395.out) hb); have n4_ := am (b6 (by repeat (first | (with_reducible first | exact HB.out | apply b1 | apply b2 | apply b3 | refine b4 ?_ GE394.out | refine b4 ?_ GE395.out) | exact HB.out)) hb); clear HO398; clear BK394; clear BK395; clear HB; have HO398 := n0_; have HO401 := n1_; have BK394 := n2_; have BK395 := n3_; have HB := n4_; clear n0_ n1_ n2_ n3_ n4_; clear hb ho63))
              have n0_ := am (Kd.R_drew HO398.out)
              have n1_ := am (Kd.R_drew HO401.out)
              have n2_ := am (k3 BK394.out)
              have n3_ := am (k3 BK395.out)
              have n4_ := am (b3 HB.out)
              clear HO398
              clear HO401
              clear BK394
              clear BK395
              clear HB
              have HO398 := n0_
              have HO401 := n1_
              have BK394 := n2_
              have BK395 := n3_
              have HB := n4_
              clear n0_ n1_ n2_ n3_ n4_
              obtain ⟨Ao65, co65, eo65⟩ := Kd.R_slice HO401.out
              (first | subst eo65 | (injection eo65 with f1_ f2_ f3_; have f4_ := f1_.symm; have f5_ := f3_.symm; clear f1_ f2_ f3_; subst f4_; subst f5_))
              have p402 : 0 ≤ (x6_1 : Int) := of_decide_eq_true (by first | (with_reducible assumption) | assumption)
              have q402 : x6_1 < (y399.length : Int) := of_decide_eq_true (by first | (with_reducible assumption) | assumption)
              obtain ⟨ad402, e402, hx402_0, hx402_1⟩ := at_T42 (Kd.R_reads' HO401.out).2.2 x6_1 p402 q402
              cases e402
              replace p402 := eq_true p402
              replace q402 := eq_true q402
              have p403 : 0 ≤ (x6_1 : Int) := of_decide_eq_true (by first | (with_reducible assumption) | assumption)
              have q403 : x6_1 < (y399.length : Int) := of_decide_eq_true (by first | (with_reducible assumption) | assumption)
              obtain ⟨ad403, e403, hx403_0, hx403_1⟩ := at_T42 (Kd.R_reads' HO401.out).2.2 x6_1 p403 q403
              obtain rfl : ad402 = ad403 := (by injection e403)
              replace p403 := eq_true p403
              replace q403 := eq_true q403
              refine start_ (n := 18) (S := fun w' => w'.cell? ⟨gb395, 0, none⟩ = some (.int .i64 x396000_1) ∧ w'.cell? ⟨gb395, 1, none⟩ = some (.int .i64 x396001_1) ∧ w'.cell? (ad402.add ((x6_1).toNat * 2)) = some (.int .i64 ((rd_T42 y399 x6_1).f0)) ∧ w'.cell? ⟨(ad402.add ((x6_1).toNat * 2)).block, (ad402.add ((x6_1).toNat * 2)).off + 1, none⟩ = some (.int .i64 ((rd_T42 y399 x6_1).f1)) ∧ w'.cell? (ad402.add ((x6_1).toNat * 2)) = some (.int .i64 ((rd_T42 y399 x6_1).f0)) ∧ w'.cell? ⟨(ad402.add ((x6_1).toNat * 2)).block, (ad402.add ((x6_1).toNat * 2)).off + 1, none⟩ = some (.int .i64 ((rd_T42 y399 x6_1).f1))) (ds := [17]) spec_l23Word.m0 (by kernel_rfl) rfl rfl ⟨(kc BK395.out 0).trans rfl, (kc BK395.out 1).trans rfl, hx402_0, hx402_1, hx403_0, hx403_1⟩ (fun hHeld => ?_); refine with_tabW spec_l23Word.tab7 spec_l23Word.bits7 (fun HT_ HW_ => ?_)
              generalize w62.drew = w64 at HO398 HO401 BK394 BK395 HB hx402_0 hx402_1 hx403_0 hx403_1 hHeld ⊢
              refine pure_ (i := 0) (N := some 26) (v := ?_) (a' := ?_) spec_l23Word.m2 rfl rfl (any_of HT_.out (by kernel_rfl)) (fun _ _ _ h => h) (Or.inl ⟨by rfl, ?_⟩) ?_ ?_
              rotate_left
              ·intro w'
               go_simp
               with_reducible rfl
              rotate_left
              ·simp only [Act.put, sa, i64_w, i32_w]
               rfl
              refine pure_ (i := 2) (N := some 28) (v := ?_) (a' := ?_) spec_l23Word.m4 rfl rfl (any_of HT_.out (by kernel_rfl)) (fun _ _ _ h => h) (Or.inl ⟨by rfl, ?_⟩) ?_ ?_
              rotate_left
              ·intro w'
               go_simp
               with_reducible rfl
              rotate_left
              ·simp only [Act.put, sa, i64_w, i32_w]
               rfl
              refine pure_ (i := 3) (N := some 29) (v := ?_) (a' := ?_) spec_l23Word.m5 rfl rfl (any_of HT_.out (by kernel_rfl)) (fun _ _ _ h => h) (Or.inl ⟨by rfl, ?_⟩) ?_ ?_
              rotate_left
              ·intro w'
               go_simp
               with_reducible rfl
              rotate_left
              ·simp only [Act.put, sa, i64_w, i32_w]
               rfl
              refine pure_ (i := 4) (N := some 30) (v := ?_) (a' := ?_) spec_l23Word.m6 rfl rfl (any_of HT_.out (by kernel_rfl)) (fun _ _ _ h => h) (Or.inl ⟨by rfl, ?_⟩) ?_ ?_
              rotate_left
              ·intro w'
               go_simp
               with_reducible rfl
              rotate_left
              ·simp only [Act.put, sa, i64_w, i32_w]
               rfl
              refine pure_ (i := 5) (N := some 31) (v := ?_) (a' := ?_) spec_l23Word.m7 rfl rfl (any_of HT_.out (by kernel_rfl)) (fun _ _ _ h => h) (Or.inl ⟨by rfl, ?_⟩) ?_ ?_
              rotate_left
              ·intro w'
               go_simp
               with_reducible rfl
              rotate_left
              ·simp only [Act.put, sa, i64_w, i32_w]
               rfl
              refine pure_ (i := 8) (N := some 34) (v := ?_) (a' := ?_) spec_l23Word.m8 rfl rfl (any_of HT_.out (by kernel_rfl)) (fun _ _ _ h => h) (Or.inl ⟨by rfl, ?_⟩) ?_ ?_
              rotate_left
              ·intro w'
               go_simp
               with_reducible rfl
              rotate_left
              ·simp only [Act.put, sa, i64_w, i32_w]
               rfl
              refine pure_ (i := 10) (N := some 36) (v := ?_) (a' := ?_) spec_l23Word.m9 rfl rfl (any_of HT_.out (by kernel_rfl)) (fun _ _ _ h => h) (Or.inl ⟨by rfl, ?_⟩) ?_ ?_
              rotate_left
              ·intro w'
               go_simp
               with_reducible rfl
              rotate_left
              ·simp only [Act.put, sa, i64_w, i32_w]
               rfl
              refine pure_ (i := 11) (N := some 37) (v := ?_) (a' := ?_) spec_l23Word.m10 rfl rfl (any_of HT_.out (by kernel_rfl)) (fun _ _ _ h => h) (Or.inl ⟨by rfl, ?_⟩) ?_ ?_
              rotate_left
              ·intro w'
               go_simp
               with_reducible rfl
              rotate_left
              ·simp only [Act.put, sa, i64_w, i32_w]
               rfl
              refine pure_ (i := 12) (N := some 38) (v := ?_) (a' := ?_) spec_l23Word.m11 rfl rfl (any_of HT_.out (by kernel_rfl)) (fun _ _ _ h => h) (Or.inl ⟨by rfl, ?_⟩) ?_ ?_
              rotate_left
              ·intro w'
               go_simp
               with_reducible rfl
              rotate_left
              ·simp only [Act.put, sa, i64_w, i32_w]
               rfl
              refine pure_ (i := 13) (N := some 39) (v := ?_) (a' := ?_) spec_l23Word.m12 rfl rfl (any_of HT_.out (by kernel_rfl)) (fun _ _ _ h => h) (Or.inl ⟨by rfl, ?_⟩) ?_ ?_
              rotate_left
              ·intro w'
               go_simp
               with_reducible rfl
              rotate_left
              ·simp only [Act.put, sa, i64_w, i32_w]
               rfl
              refine take_ (i := 1) (N := some 27) (v := ?_) (a' := ?_) spec_l23Word.m20 rfl rfl (take_ofW HT_.out HW_.out (by kernel_rfl)) (fun _ _ _ h => h) (Or.inl ⟨by rfl, ?_⟩) hHeld ?_ ?_
              rotate_left
              ·rintro w' ⟨s0, s1, s2, s3, s4, s5⟩
               go_simp
               with_reducible rfl
              rotate_left
              ·simp only [Act.put, sa, i64_w, i32_w]
               rfl
              refine take_ (i := 6) (N := some 32) (v := ?_) (a' := ?_) spec_l23Word.m21 rfl rfl (take_ofW HT_.out HW_.out (by kernel_rfl)) (fun _ _ _ h => h) (Or.inl ⟨by rfl, ?_⟩) hHeld ?_ ?_
              rotate_left
              ·rintro w' ⟨s0, s1, s2, s3, s4, s5⟩
               go_simp
               with_reducible rfl
              rotate_left
              ·simp only [Act.put, sa, i64_w, i32_w]
               rfl
              refine pure_ (i := 7) (N := some 33) (v := ?_) (a' := ?_) spec_l23Word.m23 rfl rfl (any_of HT_.out (by kernel_rfl)) (fun _ _ _ h => h) (Or.inl ⟨by rfl, ?_⟩) ?_ ?_
              rotate_left
              ·intro w'
               go_simp
               with_reducible rfl
              rotate_left
              ·simp only [Act.put, sa, i64_w, i32_w]
               rfl
              refine take_ (i := 9) (N := some 35) (v := ?_) (a' := ?_) spec_l23Word.m29 rfl rfl (take_ofW HT_.out HW_.out (by kernel_rfl)) (fun _ _ _ h => h) (Or.inl ⟨by rfl, ?_⟩) hHeld ?_ ?_
              rotate_left
              ·rintro w' ⟨s0, s1, s2, s3, s4, s5⟩
               go_simp
               with_reducible rfl
              rotate_left
              ·simp only [Act.put, sa, i64_w, i32_w]
               rfl
              refine take_ (i := 14) (N := some 40) (v := ?_) (a' := ?_) spec_l23Word.m30 rfl rfl (take_ofW HT_.out HW_.out (by kernel_rfl)) (fun _ _ _ h => h) (Or.inl ⟨by rfl, ?_⟩) hHeld ?_ ?_
              rotate_left
              ·rintro w' ⟨s0, s1, s2, s3, s4, s5⟩
               go_simp
               with_reducible rfl
              rotate_left
              ·simp only [Act.put, sa, i64_w, i32_w]
               rfl
              refine pure_ (i := 15) (N := some 41) (v := ?_) (a' := ?_) spec_l23Word.m31 rfl rfl (any_of HT_.out (by kernel_rfl)) (fun _ _ _ h => h) (Or.inl ⟨by rfl, ?_⟩) ?_ ?_
              rotate_left
              ·intro w'
               go_simp
               with_reducible rfl
              rotate_left
              ·simp only [Act.put, sa, i64_w, i32_w]
               rfl
              refine pure_ (i := 16) (N := some 42) (v := ?_) (a' := ?_) spec_l23Word.m32 rfl rfl (any_of HT_.out (by kernel_rfl)) (fun _ _ _ h => h) (Or.inl ⟨by rfl, ?_⟩) ?_ ?_
              rotate_left
              ·intro w'
               go_simp
               with_reducible rfl
              rotate_left
              ·simp only [Act.put, sa, i64_w, i32_w]
               rfl
              refine last_ (i := 17) (N := none) spec_l23Word.m33 rfl rfl (one_of HT_.out (by kernel_rfl)) (by decide) (fun K hK => ?_)
              have hs66 : w64.cell? ⟨gb395, 0, none⟩ = some (.int .i64 x396000_1) := (kc BK395.out 0).trans rfl
              have hfs66 := kf BK395.out 0
              have hns66_0 := NB394_395.out
              have hms66_0 := NB395_394.out
              have hs67 : w64.cell? ⟨gb395, 1, none⟩ = some (.int .i64 x396001_1) := (kc BK395.out 1).trans rfl
              have hfs67 := kf BK395.out 1
              have hns67_0 := NB394_395.out
              have hms67_0 := NB395_394.out
              refine skip_ (w1 := ?_) (by rfl) rfl ?_ ?_
              rotate_left
              ·go_simp
               rfl
              refine hK.out _ _ ?_
              clear hK K
              refine done_ (done_of HT_.out (by kernel_rfl)) ?_
              have hnb68 := NB395_394.out
              have hnc68 := NB394_395.out
              have hcz69_0 : w64.cell? ⟨gb395, 0, none⟩ = some (.int .i64 x396000_1) := (kc BK395.out 0).trans rfl
              have hcz69_1 : w64.cell? ⟨gb395, 1, none⟩ = some (.int .i64 x396001_1) := (kc BK395.out 1).trans rfl
              have hfz69_0 := kf BK395.out 0
              have hfz69_1 := kf BK395.out 1
              have hcz70_0 : w64.cell? ⟨gb394, 0, none⟩ = some (.int .i64 ((rd_T42 l0 0).f0)) := (kc BK394.out 0).trans rfl
              have hcz70_1 : w64.cell? ⟨gb394, 1, none⟩ = some (.int .i64 ((rd_T42 l0 0).f1)) := (kc BK394.out 1).trans rfl
              have hfz70_0 := kf BK394.out 0
              have hfz70_1 := kf BK394.out 1
              try go_wp2_with (first | ((with_reducible refine gate_dst (N := 68) rfl ?_); refine Kd.R_lit k42 _ 42 ?hg (N := 68) ?hd (xs := ([(⟨wrap64 (x396000_1 + ((rd_T42 y399 x6_1).f0)), wrap64 ((wrap64 (x396001_1 + ((rd_T42 y399 x6_1).f1))) - 1)⟩ : S42), (⟨wrap64 (x396000_1 + ((rd_T42 y399 x6_1).f0)), wrap64 (x396001_1 + ((rd_T42 y399 x6_1).f1))⟩ : S42), (⟨wrap64 ((wrap64 (x396000_1 + ((rd_T42 y399 x6_1).f0))) - 1), wrap64 (x396001_1 + ((rd_T42 y399 x6_1).f1))⟩ : S42), (⟨wrap64 ((wrap64 (x396000_1 + ((rd_T42 y399 x6_1).f0))) - 1), wrap64 ((wrap64 (x396001_1 + ((rd_T42 y399 x6_1).f1))) - 1)⟩ : S42)] : List (S42))) (inner := [.int .i64 (wrap64 (x396000_1 + ((rd_T42 y399 x6_1).f0))), .int .i64 (wrap64 ((wrap64 (x396001_1 + ((rd_T42 y399 x6_1).f1))) - 1)), .int .i64 (wrap64 (x396000_1 + ((rd_T42 y399 x6_1).f0))), .int .i64 (wrap64 (x396001_1 + ((rd_T42 y399 x6_1).f1))), .int .i64 (wrap64 ((wrap64 (x396000_1 + ((rd_T42 y399 x6_1).f0))) - 1)), .int .i64 (wrap64 (x396001_1 + ((rd_T42 y399 x6_1).f1))), .int .i64 (wrap64 ((wrap64 (x396000_1 + ((rd_T42 y399 x6_1).f0))) - 1)), .int .i64 (wrap64 ((wrap64 (x396001_1 + ((rd_T42 y399 x6_1).f1))) - 1))]) (ok := fun _ => True) (okp := fun _ => True) ?hr ?hp (fun _ hk => hk) trivial (Below.refl _ _) (Nat.le_refl _) (by simp) ?_; (case hd => rfl); (case hg => rfl); (case hr => first | (go_simp; done) | (go_simp; rfl)); (case hp => exact (Reps.c2 (show Kd.M k42 _ _ _ (⟨wrap64 (x396000_1 + ((rd_T42 y399 x6_1).f0)), wrap64 ((wrap64 (x396001_1 + ((rd_T42 y399 x6_1).f1))) - 1)⟩ : S42) [.int .i64 (wrap64 (x396000_1 + ((rd_T42 y399 x6_1).f0))), .int .i64 (wrap64 ((wrap64 (x396001_1 + ((rd_T42 y399 x6_1).f1))) - 1))] from (k42_mkM _ _ _ (⟨wrap64 (x396000_1 + ((rd_T42 y399 x6_1).f0)), wrap64 ((wrap64 (x396001_1 + ((rd_T42 y399 x6_1).f1))) - 1)⟩ : S42) )) (Reps.c2 (show Kd.M k42 _ _ _ (⟨wrap64 (x396000_1 + ((rd_T42 y399 x6_1).f0)), wrap64 (x396001_1 + ((rd_T42 y399 x6_1).f1))⟩ : S42) [.int .i64 (wrap64 (x396000_1 + ((rd_T42 y399 x6_1).f0))), .int .i64 (wrap64 (x396001_1 + ((rd_T42 y399 x6_1).f1)))] from (k42_mkM _ _ _ (⟨wrap64 (x396000_1 + ((rd_T42 y399 x6_1).f0)), wrap64 (x396001_1 + ((rd_T42 y399 x6_1).f1))⟩ : S42) )) (Reps.c2 (show Kd.M k42 _ _ _ (⟨wrap64 ((wrap64 (x396000_1 + ((rd_T42 y399 x6_1).f0))) - 1), wrap64 (x396001_1 + ((rd_T42 y399 x6_1).f1))⟩ : S42) [.int .i64 (wrap64 ((wrap64 (x396000_1 + ((rd_T42 y399 x6_1).f0))) - 1)), .int .i64 (wrap64 (x396001_1 + ((rd_T42 y399 x6_1).f1)))] from (k42_mkM _ _ _ (⟨wrap64 ((wrap64 (x396000_1 + ((rd_T42 y399 x6_1).f0))) - 1), wrap64 (x396001_1 + ((rd_T42 y399 x6_1).f1))⟩ : S42) )) (Reps.c2 (show Kd.M k42 _ _ _ (⟨wrap64 ((wrap64 (x396000_1 + ((rd_T42 y399 x6_1).f0))) - 1), wrap64 ((wrap64 (x396001_1 + ((rd_T42 y399 x6_1).f1))) - 1)⟩ : S42) [.int .i64 (wrap64 ((wrap64 (x396000_1 + ((rd_T42 y399 x6_1).f0))) - 1)), .int .i64 (wrap64 ((wrap64 (x396001_1 + ((rd_T42 y399 x6_1).f1))) - 1))] from (k42_mkM _ _ _ (⟨wrap64 ((wrap64 (x396000_1 + ((rd_T42 y399 x6_1).f0))) - 1), wrap64 ((wrap64 (x396001_1 + ((rd_T42 y399 x6_1).f1))) - 1)⟩ : S42) )) (Reps.none _ _)))))); intro v405 w71 ho72 hb hg_ hnew_; clear hg_ hnew_; (first | rw [← Ny404.out] at ho72 | (simp only [Int.reduceToNat] at ho72; rw [← Ny404.out] at ho72)); have n0_ := am (Kd.R_below (by (with_reducible repeat (first | apply Kd.R_alloc | apply Kd.R_drewN | apply Kd.R_drew)); exact (Kd.R_mono (Kd.R_far (p := ⟨gb395, 1, none⟩) (Kd.R_far (p := ⟨gb395, 0, none⟩) (Kd.R_types HO398.out BK395.out (by decide)) (fun _ hk => hk.2) (.int .i64 (wrap64 (x396000_1 + ((rd_T42 y399 x6_1).f0))))) (fun _ hk => hk.2) (.int .i64 (wrap64 (x396001_1 + ((rd_T42 y399 x6_1).f1))))) (fun _ h_ => h_.1))) hb); have n1_ := am (Kd.R_elder' (by (with_reducible repeat (first | apply Kd.R_alloc | apply Kd.R_drewN | apply Kd.R_drew)); exact (Kd.R_mono (Kd.R_far (p := ⟨gb395, 1, none⟩) (Kd.R_far (p := ⟨gb395, 0, none⟩) (Kd.R_mono HO401.out (fun k_ hk => (⟨hk, hk.2⟩ : _ ∧ k_ ≠ gb395))) (fun _ hk => hk.2) (.int .i64 (wrap64 (x396000_1 + ((rd_T42 y399 x6_1).f0))))) (fun _ hk => hk.2) (.int .i64 (wrap64 (x396001_1 + ((rd_T42 y399 x6_1).f1))))) (fun _ h_ => h_.1))) (Kd.R_base ho72) hb); have n2_ := am (Kd.R_lower (Kd.R_newB (Kd.R_newB (Kd.R_new' ho72 (Kd.R_lt (by (with_reducible repeat (first | apply Kd.R_alloc | apply Kd.R_drewN | apply Kd.R_drew)); exact (Kd.R_mono (Kd.R_far (p := ⟨gb395, 1, none⟩) (Kd.R_far (p := ⟨gb395, 0, none⟩) (Kd.R_mono HO401.out (fun k_ hk => (⟨hk, hk.2⟩ : _ ∧ k_ ≠ gb395))) (fun _ hk => hk.2) (.int .i64 (wrap64 (x396000_1 + ((rd_T42 y399 x6_1).f0))))) (fun _ hk => hk.2) (.int .i64 (wrap64 (x396001_1 + ((rd_T42 y399 x6_1).f1))))) (fun _ h_ => h_.1))))) (g := gb394) (o := .cells #[.int .i64 ((rd_T42 l0 0).f0), .int .i64 ((rd_T42 l0 0).f1)] 42 (0, 0)) (by (with_reducible repeat (first | refine k2 ?_ _ | refine k3 ?_ | refine k1 ?_ _)); refine blk_far ?_ NB394_395.out _; (with_reducible repeat (first | refine k2 ?_ _ | refine k3 ?_ | refine k1 ?_ _)); refine blk_far ?_ NB394_395.out _; (with_reducible repeat (first | refine k2 ?_ _ | refine k3 ?_ | refine k1 ?_ _)); exact BK394.out)) (g := gb395) (o := .cells #[.int .i64 (wrap64 (x396000_1 + ((rd_T42 y399 x6_1).f0))), .int .i64 (wrap64 (x396001_1 + ((rd_T42 y399 x6_1).f1)))] 42 (0, 0)) (by (with_reducible repeat (first | refine k2 ?_ _ | refine k3 ?_ | refine k1 ?_ _)); refine blk_put (cs := #[.int .i64 (wrap64 (x396000_1 + ((rd_T42 y399 x6_1).f0))), .int .i64 x396001_1]) ?_ 1 _ rfl; (with_reducible repeat (first | refine k2 ?_ _ | refine k3 ?_ | refine k1 ?_ _)); refine blk_put (cs := #[.int .i64 x396000_1, .int .i64 x396001_1]) ?_ 0 _ rfl; (with_reducible repeat (first | refine k2 ?_ _ | refine k3 ?_ | refine k1 ?_ _)); exact BK395.out)) (b5 (by repeat (first | (with_reducible first | exact HB.out | apply b1 | apply b2 | apply b3 | refine b4 ?_ GE394.out | refine b4 ?_ GE395.out) | exact HB.out)))); have n3_ := am (k4 (g := gb394) (o := .cells #[.int .i64 ((rd_T42 l0 0).f0), .int .i64 ((rd_T42 l0 0).f1)] 42 (0, 0)) (by (with_reducible repeat (first | refine k2 ?_ _ | refine k3 ?_ | refine k1 ?_ _)); refine blk_far ?_ NB394_395.out _; (with_reducible repeat (first | refine k2 ?_ _ | refine k3 ?_ | refine k1 ?_ _)); refine blk_far ?_ NB394_395.out _; (with_reducible repeat (first | refine k2 ?_ _ | refine k3 ?_ | refine k1 ?_ _)); exact BK394.out) hb); have n4_ := am (k4 (g := gb395) (o := .cells #[.int .i64 (wrap64 (x396000_1 + ((rd_T42 y399 x6_1).f0))), .int .i64 (wrap64 (x396001_1 + ((rd_T42 y399 x6_1).f1)))] 42 (0, 0)) (by (with_reducible repeat (first | refine k2 ?_ _ | refine k3 ?_ | refine k1 ?_ _)); refine blk_put (cs := #[.int .i64 (wrap64 (x396000_1 + ((rd_T42 y399 x6_1).f0))), .int .i64 x396001_1]) ?_ 1 _ rfl; (with_reducible repeat (first | refine k2 ?_ _ | refine k3 ?_ | refine k1 ?_ _)); refine blk_put (cs := #[.int .i64 x396000_1, .int .i64 x396001_1]) ?_ 0 _ rfl; (with_reducible repeat (first | refine k2 ?_ _ | refine k3 ?_ | refine k1 ?_ _)); exact BK395.out) hb); have n5_ := am (b6 (by repeat (first | (with_reducible first | exact HB.out | apply b1 | apply b2 | apply b3 | refine b4 ?_ GE394.out | refine b4 ?_ GE395.out) | exact HB.out)) hb); clear HO398; clear HO401; clear BK394; clear BK395; clear HB; have HO398 := n0_; have HO401 := n1_; have HO406 := n2_; have BK394 := n3_; have BK395 := n4_; have HB := n5_; clear n0_ n1_ n2_ n3_ n4_ n5_; clear hb ho72))
              have n0_ := am (Kd.R_drew HO398.out)
              have n1_ := am (Kd.R_drew HO401.out)
              have n2_ := am (Kd.R_drew HO406.out)
              have n3_ := am (k3 BK394.out)
              have n4_ := am (k3 BK395.out)
              have n5_ := am (b3 HB.out)
              clear HO398
              clear HO401
              clear HO406
              clear BK394
              clear BK395
              clear HB
              have HO398 := n0_
              have HO401 := n1_
              have HO406 := n2_
              have BK394 := n3_
              have BK395 := n4_
              have HB := n5_
              clear n0_ n1_ n2_ n3_ n4_ n5_
              obtain ⟨Ao74, co74, eo74⟩ := Kd.R_slice HO406.out
              (first | subst eo74 | (injection eo74 with f1_ f2_ f3_; have f4_ := f1_.symm; have f5_ := f3_.symm; clear f1_ f2_ f3_; subst f4_; subst f5_))
              have p407 : 0 ≤ (x6_1 : Int) := of_decide_eq_true (by first | (with_reducible assumption) | assumption)
              have q407 : x6_1 < (y404.length : Int) := of_decide_eq_true (by first | (with_reducible assumption) | assumption)
              obtain ⟨ad407, e407, hx407_0, hx407_1⟩ := at_T42 (Kd.R_reads' HO406.out).2.2 x6_1 p407 q407
              cases e407
              replace p407 := eq_true p407
              replace q407 := eq_true q407
              have p408 : 0 ≤ ((ji28) : Int) := of_decide_eq_true (by first | (with_reducible assumption) | assumption)
              have q408 : (ji28) < (y404.length : Int) := of_decide_eq_true (by first | (with_reducible assumption) | assumption)
              obtain ⟨ad408, e408, hx408_0, hx408_1⟩ := at_T42 (Kd.R_reads' HO406.out).2.2 (ji28) p408 q408
              obtain rfl : ad407 = ad408 := (by injection e408)
              replace p408 := eq_true p408
              replace q408 := eq_true q408
              refine start_ (n := 14) (S := fun w' => w'.cell? (ad407.add ((x6_1).toNat * 2)) = some (.int .i64 ((rd_T42 y404 x6_1).f0)) ∧ w'.cell? ⟨(ad407.add ((x6_1).toNat * 2)).block, (ad407.add ((x6_1).toNat * 2)).off + 1, none⟩ = some (.int .i64 ((rd_T42 y404 x6_1).f1)) ∧ w'.cell? (ad407.add (((ji28)).toNat * 2)) = some (.int .i64 ((rd_T42 y404 (ji28)).f0)) ∧ w'.cell? ⟨(ad407.add (((ji28)).toNat * 2)).block, (ad407.add (((ji28)).toNat * 2)).off + 1, none⟩ = some (.int .i64 ((rd_T42 y404 (ji28)).f1))) (ds := []) spec_l23Word.m1 (by kernel_rfl) rfl rfl ⟨hx407_0, hx407_1, hx408_0, hx408_1⟩ (fun hHeld => ?_); refine with_tabW spec_l23Word.tab11 spec_l23Word.bits11 (fun HT_ HW_ => ?_)
              generalize w71.drew = w73 at HO398 HO401 HO406 BK394 BK395 HB hx407_0 hx407_1 hx408_0 hx408_1 hHeld ⊢
              refine pure_ (i := 0) (N := some 69) (v := ?_) (a' := ?_) spec_l23Word.m3 rfl rfl (any_of HT_.out (by kernel_rfl)) (fun _ _ _ h => h) (Or.inl ⟨by rfl, ?_⟩) ?_ ?_
              rotate_left
              ·intro w'
               go_simp
               with_reducible rfl
              rotate_left
              ·simp only [Act.put, sa, i64_w, i32_w]
               rfl
              refine pure_ (i := 1) (N := some 70) (v := ?_) (a' := ?_) spec_l23Word.m13 rfl rfl (any_of HT_.out (by kernel_rfl)) (fun _ _ _ h => h) (Or.inl ⟨by rfl, ?_⟩) ?_ ?_
              rotate_left
              ·intro w'
               go_simp
               with_reducible rfl
              rotate_left
              ·simp only [Act.put, sa, i64_w, i32_w]
               rfl
              refine pure_ (i := 2) (N := some 71) (v := ?_) (a' := ?_) spec_l23Word.m14 rfl rfl (any_of HT_.out (by kernel_rfl)) (fun _ _ _ h => h) (Or.inl ⟨by rfl, ?_⟩) ?_ ?_
              rotate_left
              ·intro w'
               go_simp
               with_reducible rfl
              rotate_left
              ·simp only [Act.put, sa, i64_w, i32_w]
               rfl
              refine pure_ (i := 4) (N := some 73) (v := ?_) (a' := ?_) spec_l23Word.m15 rfl rfl (any_of HT_.out (by kernel_rfl)) (fun _ _ _ h => h) (Or.inl ⟨by rfl, ?_⟩) ?_ ?_
              rotate_left
              ·intro w'
               go_simp
               with_reducible rfl
              rotate_left
              ·simp only [Act.put, sa, i64_w, i32_w]
               rfl
              refine pure_ (i := 5) (N := some 74) (v := ?_) (a' := ?_) spec_l23Word.m16 rfl rfl (any_of HT_.out (by kernel_rfl)) (fun _ _ _ h => h) (Or.inl ⟨by rfl, ?_⟩) ?_ ?_
              rotate_left
              ·intro w'
               go_simp
               with_reducible rfl
              rotate_left
              ·simp only [Act.put, sa, i64_w, i32_w]
               rfl
              refine pure_ (i := 6) (N := some 75) (v := ?_) (a' := ?_) spec_l23Word.m17 rfl rfl (any_of HT_.out (by kernel_rfl)) (fun _ _ _ h => h) (Or.inl ⟨by rfl, ?_⟩) ?_ ?_
              rotate_left
              ·intro w'
               go_simp
               with_reducible rfl
              rotate_left
              ·simp only [Act.put, sa, i64_w, i32_w]
               rfl
              refine pure_ (i := 7) (N := some 76) (v := ?_) (a' := ?_) spec_l23Word.m18 rfl rfl (any_of HT_.out (by kernel_rfl)) (fun _ _ _ h => h) (Or.inl ⟨by rfl, ?_⟩) ?_ ?_
              rotate_left
              ·intro w'
               go_simp
               with_reducible rfl
              rotate_left
              ·simp only [Act.put, sa, i64_w, i32_w]
               rfl
              refine pure_ (i := 8) (N := some 77) (v := ?_) (a' := ?_) spec_l23Word.m19 rfl rfl (any_of HT_.out (by kernel_rfl)) (fun _ _ _ h => h) (Or.inl ⟨by rfl, ?_⟩) ?_ ?_
              rotate_left
              ·intro w'
               go_simp
               with_reducible rfl
              rotate_left
              ·simp only [Act.put, sa, i64_w, i32_w]
               rfl
              refine take_ (i := 3) (N := some 72) (v := ?_) (a' := ?_) spec_l23Word.m22 rfl rfl (take_ofW HT_.out HW_.out (by kernel_rfl)) (fun _ _ _ h => h) (Or.inl ⟨by rfl, ?_⟩) hHeld ?_ ?_
              rotate_left
              ·rintro w' ⟨s0, s1, s2, s3⟩
               go_simp
               with_reducible rfl
              rotate_left
              ·simp only [Act.put, sa, i64_w, i32_w]
               rfl
              refine take_ (i := 9) (N := some 78) (v := ?_) (a' := ?_) spec_l23Word.m24 rfl rfl (take_ofW HT_.out HW_.out (by kernel_rfl)) (fun _ _ _ h => h) (Or.inl ⟨by rfl, ?_⟩) hHeld ?_ ?_
              rotate_left
              ·rintro w' ⟨s0, s1, s2, s3⟩
               go_simp
               with_reducible rfl
              rotate_left
              ·simp only [Act.put, sa, i64_w, i32_w]
               rfl
              refine join_ (σ := Nat × Nat) 2 spec_l23Word.m27 (fun s_ => [(9, .pointer (some ⟨s_.1, 0, none⟩)), (10, .pointer (some ⟨s_.2, 0, none⟩))]) (fun s_ w' => (w'.cell? (ad407.add ((x6_1).toNat * 2)) = some (.int .i64 ((rd_T42 y404 x6_1).f0)) ∧ w'.cell? ⟨(ad407.add ((x6_1).toNat * 2)).block, (ad407.add ((x6_1).toNat * 2)).off + 1, none⟩ = some (.int .i64 ((rd_T42 y404 x6_1).f1)) ∧ w'.cell? (ad407.add (((ji28)).toNat * 2)) = some (.int .i64 ((rd_T42 y404 (ji28)).f0)) ∧ w'.cell? ⟨(ad407.add (((ji28)).toNat * 2)).block, (ad407.add (((ji28)).toNat * 2)).off + 1, none⟩ = some (.int .i64 ((rd_T42 y404 (ji28)).f1))) ∧ (Kd.R (Kd.int .u8) 5 w' w.heap.size (fun _ => True) v397 y396) ∧ (Kd.R k42 42 w' w.heap.size (fun k_ => some k_ ≠ (.slice (some ad407) y404.length co74 : Value).ownBlock ∧ k_ ≠ gb394 ∧ k_ ≠ gb395 ∧ k_ ≠ s_.1 ∧ k_ ≠ s_.2) (.slice (some ad402) y399.length co65) y399) ∧ (Kd.R k42 42 w' w.heap.size (fun k_ => some k_ ≠ (.slice (some ad402) y399.length co65 : Value).ownBlock ∧ k_ ≠ gb394 ∧ k_ ≠ gb395 ∧ k_ ≠ s_.1 ∧ k_ ≠ s_.2) (.slice (some ad407) y404.length co74) y404) ∧ (w'.heap[gb394]? = some (.cells #[.int .i64 ((rd_T42 l0 0).f0), .int .i64 ((rd_T42 l0 0).f1)] 42 (0, 0))) ∧ (w'.heap[gb395]? = some (.cells #[.int .i64 (wrap64 (x396000_1 + ((rd_T42 y399 x6_1).f0))), .int .i64 (wrap64 (x396001_1 + ((rd_T42 y399 x6_1).f1)))] 42 (0, 0))) ∧ (w'.heap[s_.1]? = some (.cells #[.int .i64 0, .int .i64 0] 42 (0, 0))) ∧ (w'.heap[s_.2]? = some (.cells #[.int .i64 0, .int .i64 0] 42 (0, 0))) ∧ (w.heap.size ≤ s_.1) ∧ (w.heap.size ≤ s_.1) ∧ (gb394 ≠ s_.1) ∧ (s_.1 ≠ gb394) ∧ (gb395 ≠ s_.1) ∧ (s_.1 ≠ gb395) ∧ (s_.2 ≠ s_.1) ∧ (s_.1 ≠ s_.2) ∧ (w.heap.size ≤ s_.2) ∧ (w.heap.size ≤ s_.2) ∧ (gb394 ≠ s_.2) ∧ (s_.2 ≠ gb394) ∧ (gb395 ≠ s_.2) ∧ (s_.2 ≠ gb395) ∧ (Below w.heap.size w w')) ?_ ?_
              rotate_left
              ·intro hCont
               refine two_ (i := 10) (j := 11) (Ni := some 9) (Nj := some 10) spec_l23Word.m26 spec_l23Word.m25 rfl rfl rfl rfl (two_of HT_.out (by kernel_rfl)) (by decide) (by decide) (fun K hK => ?_) (fun K hK => ?_)
               ·skip
                refine box_step ?hg (N := 9) ?hd (cs := #[.int .i64 0, .int .i64 0]) (t := 42) ?hr ?_; (case hd => rfl); (case hg => rfl); (case hr => first | (go_simp; done) | (go_simp; rfl))
                intro gb409 hg w75 hbox hb
                have HS0_ := (hb.cell (World.block_lt_of_cell? _ _ (hHeld.1))).trans (hHeld.1)
                have HS1_ := (hb.cell (World.block_lt_of_cell? _ _ (hHeld.2.1))).trans (hHeld.2.1)
                have HS2_ := (hb.cell (World.block_lt_of_cell? _ _ (hHeld.2.2.1))).trans (hHeld.2.2.1)
                have HS3_ := (hb.cell (World.block_lt_of_cell? _ _ (hHeld.2.2.2))).trans (hHeld.2.2.2)
                have n0_ := am (Kd.R_below (by (with_reducible repeat (first | apply Kd.R_alloc | apply Kd.R_drewN | apply Kd.R_drew)); exact HO398.out) hb)
                have n1_ := am (Kd.R_below (Kd.R_elderB (by (with_reducible repeat (first | apply Kd.R_alloc | apply Kd.R_drewN | apply Kd.R_drew)); exact HO401.out) gb409 (Nat.le_of_eq hg.symm)) hb)
                have n2_ := am (Kd.R_below (Kd.R_elderB (by (with_reducible repeat (first | apply Kd.R_alloc | apply Kd.R_drewN | apply Kd.R_drew)); exact HO406.out) gb409 (Nat.le_of_eq hg.symm)) hb)
                have n3_ := am (k4 (g := gb394) (o := .cells #[.int .i64 ((rd_T42 l0 0).f0), .int .i64 ((rd_T42 l0 0).f1)] 42 (0, 0)) (by (with_reducible repeat (first | refine k2 ?_ _ | refine k3 ?_ | refine k1 ?_ _)); exact BK394.out) hb)
                have n4_ := am (k4 (g := gb395) (o := .cells #[.int .i64 (wrap64 (x396000_1 + ((rd_T42 y399 x6_1).f0))), .int .i64 (wrap64 (x396001_1 + ((rd_T42 y399 x6_1).f1)))] 42 (0, 0)) (by (with_reducible repeat (first | refine k2 ?_ _ | refine k3 ?_ | refine k1 ?_ _)); exact BK395.out) hb)
                have n5_ := am (b6 (by repeat (first | (with_reducible first | exact HB.out | apply b1 | apply b2 | apply b3 | refine b4 ?_ GE394.out | refine b4 ?_ GE395.out) | exact HB.out)) hb)
                have n6_ := am (hbox)
                have n7_ := am ((by rw [hg]; exact (b5 (by repeat (first | (with_reducible first | exact HB.out | apply b1 | apply b2 | apply b3 | refine b4 ?_ GE394.out | refine b4 ?_ GE395.out) | exact HB.out))) : w.heap.size ≤ gb409))
                have n8_ := am ((by rw [hg]; exact (b5 (by repeat (first | (with_reducible first | exact HB.out | apply b1 | apply b2 | apply b3 | refine b4 ?_ GE394.out | refine b4 ?_ GE395.out) | exact HB.out))) : w.heap.size ≤ gb409))
                have n9_ := am ((by rw [hg]; exact nl (k5 (g := gb394) (o := .cells #[.int .i64 ((rd_T42 l0 0).f0), .int .i64 ((rd_T42 l0 0).f1)] 42 (0, 0)) (by (with_reducible repeat (first | refine k2 ?_ _ | refine k3 ?_ | refine k1 ?_ _)); exact BK394.out)) : gb394 ≠ gb409))
                have n10_ := am ((by rw [hg]; exact ng (k5 (g := gb394) (o := .cells #[.int .i64 ((rd_T42 l0 0).f0), .int .i64 ((rd_T42 l0 0).f1)] 42 (0, 0)) (by (with_reducible repeat (first | refine k2 ?_ _ | refine k3 ?_ | refine k1 ?_ _)); exact BK394.out)) : gb409 ≠ gb394))
                have n11_ := am ((by rw [hg]; exact nl (k5 (g := gb395) (o := .cells #[.int .i64 (wrap64 (x396000_1 + ((rd_T42 y399 x6_1).f0))), .int .i64 (wrap64 (x396001_1 + ((rd_T42 y399 x6_1).f1)))] 42 (0, 0)) (by (with_reducible repeat (first | refine k2 ?_ _ | refine k3 ?_ | refine k1 ?_ _)); exact BK395.out)) : gb395 ≠ gb409))
                have n12_ := am ((by rw [hg]; exact ng (k5 (g := gb395) (o := .cells #[.int .i64 (wrap64 (x396000_1 + ((rd_T42 y399 x6_1).f0))), .int .i64 (wrap64 (x396001_1 + ((rd_T42 y399 x6_1).f1)))] 42 (0, 0)) (by (with_reducible repeat (first | refine k2 ?_ _ | refine k3 ?_ | refine k1 ?_ _)); exact BK395.out)) : gb409 ≠ gb395))
                clear HO398
                clear HO401
                clear HO406
                clear BK394
                clear BK395
                clear HB
                have HO398 := n0_
                have HO401 := n1_
                have HO406 := n2_
                have BK394 := n3_
                have BK395 := n4_
                have HB := n5_
                have BK409 := n6_
                have GW409 := n7_
                have GE409 := n8_
                have NB394_409 := n9_
                have NB409_394 := n10_
                have NB395_409 := n11_
                have NB409_395 := n12_
                clear n0_ n1_ n2_ n3_ n4_ n5_ n6_ n7_ n8_ n9_ n10_ n11_ n12_
                clear hb hbox hg
                refine hK.out _ _ ⟨HS0_, HS1_, HS2_, HS3_⟩ (fun hHeld => ?_)
                clear hK K
                refine norm_ (a' := ?_) ?_ ?_
                rotate_left
                ·show Act.put _ (some 9) _ = _
                 simp only [Act.put, sa, i64_w, i32_w]
                 rfl
                refine one_ (i := 11) (N := some 10) spec_l23Word.m27 rfl rfl (one_of HT_.out (by kernel_rfl)) (by decide) (fun K hK => ?_)
                refine box_step ?hg (N := 10) ?hd (cs := #[.int .i64 0, .int .i64 0]) (t := 42) ?hr ?_; (case hd => rfl); (case hg => rfl); (case hr => first | (go_simp; done) | (go_simp; rfl))
                intro gb410 hg w76 hbox hb
                have HS0_ := (hb.cell (World.block_lt_of_cell? _ _ (hHeld.1))).trans (hHeld.1)
                have HS1_ := (hb.cell (World.block_lt_of_cell? _ _ (hHeld.2.1))).trans (hHeld.2.1)
                have HS2_ := (hb.cell (World.block_lt_of_cell? _ _ (hHeld.2.2.1))).trans (hHeld.2.2.1)
                have HS3_ := (hb.cell (World.block_lt_of_cell? _ _ (hHeld.2.2.2))).trans (hHeld.2.2.2)
                have n0_ := am (Kd.R_below (by (with_reducible repeat (first | apply Kd.R_alloc | apply Kd.R_drewN | apply Kd.R_drew)); exact HO398.out) hb)
                have n1_ := am (Kd.R_below (Kd.R_elderB (by (with_reducible repeat (first | apply Kd.R_alloc | apply Kd.R_drewN | apply Kd.R_drew)); exact HO401.out) gb410 (Nat.le_of_eq hg.symm)) hb)
                have n2_ := am (Kd.R_below (Kd.R_elderB (by (with_reducible repeat (first | apply Kd.R_alloc | apply Kd.R_drewN | apply Kd.R_drew)); exact HO406.out) gb410 (Nat.le_of_eq hg.symm)) hb)
                have n3_ := am (k4 (g := gb394) (o := .cells #[.int .i64 ((rd_T42 l0 0).f0), .int .i64 ((rd_T42 l0 0).f1)] 42 (0, 0)) (by (with_reducible repeat (first | refine k2 ?_ _ | refine k3 ?_ | refine k1 ?_ _)); exact BK394.out) hb)
                have n4_ := am (k4 (g := gb395) (o := .cells #[.int .i64 (wrap64 (x396000_1 + ((rd_T42 y399 x6_1).f0))), .int .i64 (wrap64 (x396001_1 + ((rd_T42 y399 x6_1).f1)))] 42 (0, 0)) (by (with_reducible repeat (first | refine k2 ?_ _ | refine k3 ?_ | refine k1 ?_ _)); exact BK395.out) hb)
                have n5_ := am (k4 (g := gb409) (o := .cells #[.int .i64 0, .int .i64 0] 42 (0, 0)) (by (with_reducible repeat (first | refine k2 ?_ _ | refine k3 ?_ | refine k1 ?_ _)); exact BK409.out) hb)
                have n6_ := am (b6 (by repeat (first | (with_reducible first | exact HB.out | apply b1 | apply b2 | apply b3 | refine b4 ?_ GE394.out | refine b4 ?_ GE395.out | refine b4 ?_ GE409.out) | exact HB.out)) hb)
                have n7_ := am (hbox)
                have n8_ := am ((by rw [hg]; exact (b5 (by repeat (first | (with_reducible first | exact HB.out | apply b1 | apply b2 | apply b3 | refine b4 ?_ GE394.out | refine b4 ?_ GE395.out | refine b4 ?_ GE409.out) | exact HB.out))) : w.heap.size ≤ gb410))
                have n9_ := am ((by rw [hg]; exact (b5 (by repeat (first | (with_reducible first | exact HB.out | apply b1 | apply b2 | apply b3 | refine b4 ?_ GE394.out | refine b4 ?_ GE395.out | refine b4 ?_ GE409.out) | exact HB.out))) : w.heap.size ≤ gb410))
                have n10_ := am ((by rw [hg]; exact nl (k5 (g := gb394) (o := .cells #[.int .i64 ((rd_T42 l0 0).f0), .int .i64 ((rd_T42 l0 0).f1)] 42 (0, 0)) (by (with_reducible repeat (first | refine k2 ?_ _ | refine k3 ?_ | refine k1 ?_ _)); exact BK394.out)) : gb394 ≠ gb410))
                have n11_ := am ((by rw [hg]; exact ng (k5 (g := gb394) (o := .cells #[.int .i64 ((rd_T42 l0 0).f0), .int .i64 ((rd_T42 l0 0).f1)] 42 (0, 0)) (by (with_reducible repeat (first | refine k2 ?_ _ | refine k3 ?_ | refine k1 ?_ _)); exact BK394.out)) : gb410 ≠ gb394))
                have n12_ := am ((by rw [hg]; exact nl (k5 (g := gb395) (o := .cells #[.int .i64 (wrap64 (x396000_1 + ((rd_T42 y399 x6_1).f0))), .int .i64 (wrap64 (x396001_1 + ((rd_T42 y399 x6_1).f1)))] 42 (0, 0)) (by (with_reducible repeat (first | refine k2 ?_ _ | refine k3 ?_ | refine k1 ?_ _)); exact BK395.out)) : gb395 ≠ gb410))
                have n13_ := am ((by rw [hg]; exact ng (k5 (g := gb395) (o := .cells #[.int .i64 (wrap64 (x396000_1 + ((rd_T42 y399 x6_1).f0))), .int .i64 (wrap64 (x396001_1 + ((rd_T42 y399 x6_1).f1)))] 42 (0, 0)) (by (with_reducible repeat (first | refine k2 ?_ _ | refine k3 ?_ | refine k1 ?_ _)); exact BK395.out)) : gb410 ≠ gb395))
                have n14_ := am ((by rw [hg]; exact nl (k5 (g := gb409) (o := .cells #[.int .i64 0, .int .i64 0] 42 (0, 0)) (by (with_reducible repeat (first | refine k2 ?_ _ | refine k3 ?_ | refine k1 ?_ _)); exact BK409.out)) : gb409 ≠ gb410))
                have n15_ := am ((by rw [hg]; exact ng (k5 (g := gb409) (o := .cells #[.int .i64 0, .int .i64 0] 42 (0, 0)) (by (with_reducible repeat (first | refine k2 ?_ _ | refine k3 ?_ | refine k1 ?_ _)); exact BK409.out)) : gb410 ≠ gb409))
                clear HO398
                clear HO401
                clear HO406
                clear BK394
                clear BK395
                clear BK409
                clear HB
                have HO398 := n0_
                have HO401 := n1_
                have HO406 := n2_
                have BK394 := n3_
                have BK395 := n4_
                have BK409 := n5_
                have HB := n6_
                have BK410 := n7_
                have GW410 := n8_
                have GE410 := n9_
                have NB394_410 := n10_
                have NB410_394 := n11_
                have NB395_410 := n12_
                have NB410_395 := n13_
                have NB409_410 := n14_
                have NB410_409 := n15_
                clear n0_ n1_ n2_ n3_ n4_ n5_ n6_ n7_ n8_ n9_ n10_ n11_ n12_ n13_ n14_ n15_
                clear hb hbox hg
                refine hK.out _ _ ⟨HS0_, HS1_, HS2_, HS3_⟩ (fun hHeld => ?_)
                clear hK K
                refine norm_ (a' := ?_) ?_ ?_
                rotate_left
                ·show Act.put _ (some 10) _ = _
                 simp only [Act.put, sa, i64_w, i32_w]
                 rfl
                exact norm_ (by simp only [putAll, Act.put, sa]) (hCont (gb409, gb410) _ ⟨hHeld, (by (with_reducible repeat (first | apply Kd.R_alloc | apply Kd.R_drewN | apply Kd.R_drew)); exact HO398.out), (by (with_reducible repeat (first | apply Kd.R_alloc | apply Kd.R_drewN | apply Kd.R_drew)); exact Kd.R_mono HO401.out (fun _ hk => ⟨hk.1.1.2, ⟨hk.1.1.1.1.2, ⟨hk.1.1.1.2, ⟨hk.1.2, hk.2⟩⟩⟩⟩)), (by (with_reducible repeat (first | apply Kd.R_alloc | apply Kd.R_drewN | apply Kd.R_drew)); exact Kd.R_mono HO406.out (fun _ hk => ⟨hk.1.1.1.1.2, ⟨hk.1.1.1.2, ⟨hk.1.1.2, ⟨hk.1.2, hk.2⟩⟩⟩⟩)), (by (with_reducible repeat (first | refine k2 ?_ _ | refine k3 ?_ | refine k1 ?_ _)); exact BK394.out), (by (with_reducible repeat (first | refine k2 ?_ _ | refine k3 ?_ | refine k1 ?_ _)); exact BK395.out), (by (with_reducible repeat (first | refine k2 ?_ _ | refine k3 ?_ | refine k1 ?_ _)); exact BK409.out), (by (with_reducible repeat (first | refine k2 ?_ _ | refine k3 ?_ | refine k1 ?_ _)); exact BK410.out), GW409.out, GE409.out, NB394_409.out, NB409_394.out, NB395_409.out, NB409_395.out, NB410_409.out, NB409_410.out, GW410.out, GE410.out, NB394_410.out, NB410_394.out, NB395_410.out, NB410_395.out, (by repeat (first | (with_reducible first | exact HB.out | apply b1 | apply b2 | apply b3 | refine b4 ?_ GE394.out | refine b4 ?_ GE395.out | refine b4 ?_ GE409.out | refine b4 ?_ GE410.out) | exact HB.out))⟩)
               ·skip
                refine box_step ?hg (N := 10) ?hd (cs := #[.int .i64 0, .int .i64 0]) (t := 42) ?hr ?_; (case hd => rfl); (case hg => rfl); (case hr => first | (go_simp; done) | (go_simp; rfl))
                intro gb410 hg w75 hbox hb
                have HS0_ := (hb.cell (World.block_lt_of_cell? _ _ (hHeld.1))).trans (hHeld.1)
                have HS1_ := (hb.cell (World.block_lt_of_cell? _ _ (hHeld.2.1))).trans (hHeld.2.1)
                have HS2_ := (hb.cell (World.block_lt_of_cell? _ _ (hHeld.2.2.1))).trans (hHeld.2.2.1)
                have HS3_ := (hb.cell (World.block_lt_of_cell? _ _ (hHeld.2.2.2))).trans (hHeld.2.2.2)
                have n0_ := am (Kd.R_below (by (with_reducible repeat (first | apply Kd.R_alloc | apply Kd.R_drewN | apply Kd.R_drew)); exact HO398.out) hb)
                have n1_ := am (Kd.R_below (Kd.R_elderB (by (with_reducible repeat (first | apply Kd.R_alloc | apply Kd.R_drewN | apply Kd.R_drew)); exact HO401.out) gb410 (Nat.le_of_eq hg.symm)) hb)
                have n2_ := am (Kd.R_below (Kd.R_elderB (by (with_reducible repeat (first | apply Kd.R_alloc | apply Kd.R_drewN | apply Kd.R_drew)); exact HO406.out) gb410 (Nat.le_of_eq hg.symm)) hb)
                have n3_ := am (k4 (g := gb394) (o := .cells #[.int .i64 ((rd_T42 l0 0).f0), .int .i64 ((rd_T42 l0 0).f1)] 42 (0, 0)) (by (with_reducible repeat (first | refine k2 ?_ _ | refine k3 ?_ | refine k1 ?_ _)); exact BK394.out) hb)
                have n4_ := am (k4 (g := gb395) (o := .cells #[.int .i64 (wrap64 (x396000_1 + ((rd_T42 y399 x6_1).f0))), .int .i64 (wrap64 (x396001_1 + ((rd_T42 y399 x6_1).f1)))] 42 (0, 0)) (by (with_reducible repeat (first | refine k2 ?_ _ | refine k3 ?_ | refine k1 ?_ _)); exact BK395.out) hb)
                have n5_ := am (b6 (by repeat (first | (with_reducible first | exact HB.out | apply b1 | apply b2 | apply b3 | refine b4 ?_ GE394.out | refine b4 ?_ GE395.out) | exact HB.out)) hb)
                have n6_ := am (hbox)
                have n7_ := am ((by rw [hg]; exact (b5 (by repeat (first | (with_reducible first | exact HB.out | apply b1 | apply b2 | apply b3 | refine b4 ?_ GE394.out | refine b4 ?_ GE395.out) | exact HB.out))) : w.heap.size ≤ gb410))
                have n8_ := am ((by rw [hg]; exact (b5 (by repeat (first | (with_reducible first | exact HB.out | apply b1 | apply b2 | apply b3 | refine b4 ?_ GE394.out | refine b4 ?_ GE395.out) | exact HB.out))) : w.heap.size ≤ gb410))
                have n9_ := am ((by rw [hg]; exact nl (k5 (g := gb394) (o := .cells #[.int .i64 ((rd_T42 l0 0).f0), .int .i64 ((rd_T42 l0 0).f1)] 42 (0, 0)) (by (with_reducible repeat (first | refine k2 ?_ _ | refine k3 ?_ | refine k1 ?_ _)); exact BK394.out)) : gb394 ≠ gb410))
                have n10_ := am ((by rw [hg]; exact ng (k5 (g := gb394) (o := .cells #[.int .i64 ((rd_T42 l0 0).f0), .int .i64 ((rd_T42 l0 0).f1)] 42 (0, 0)) (by (with_reducible repeat (first | refine k2 ?_ _ | refine k3 ?_ | refine k1 ?_ _)); exact BK394.out)) : gb410 ≠ gb394))
                have n11_ := am ((by rw [hg]; exact nl (k5 (g := gb395) (o := .cells #[.int .i64 (wrap64 (x396000_1 + ((rd_T42 y399 x6_1).f0))), .int .i64 (wrap64 (x396001_1 + ((rd_T42 y399 x6_1).f1)))] 42 (0, 0)) (by (with_reducible repeat (first | refine k2 ?_ _ | refine k3 ?_ | refine k1 ?_ _)); exact BK395.out)) : gb395 ≠ gb410))
                have n12_ := am ((by rw [hg]; exact ng (k5 (g := gb395) (o := .cells #[.int .i64 (wrap64 (x396000_1 + ((rd_T42 y399 x6_1).f0))), .int .i64 (wrap64 (x396001_1 + ((rd_T42 y399 x6_1).f1)))] 42 (0, 0)) (by (with_reducible repeat (first | refine k2 ?_ _ | refine k3 ?_ | refine k1 ?_ _)); exact BK395.out)) : gb410 ≠ gb395))
                clear HO398
                clear HO401
                clear HO406
                clear BK394
                clear BK395
                clear HB
                have HO398 := n0_
                have HO401 := n1_
                have HO406 := n2_
                have BK394 := n3_
                have BK395 := n4_
                have HB := n5_
                have BK410 := n6_
                have GW410 := n7_
                have GE410 := n8_
                have NB394_410 := n9_
                have NB410_394 := n10_
                have NB395_410 := n11_
                have NB410_395 := n12_
                clear n0_ n1_ n2_ n3_ n4_ n5_ n6_ n7_ n8_ n9_ n10_ n11_ n12_
                clear hb hbox hg
                refine hK.out _ _ ⟨HS0_, HS1_, HS2_, HS3_⟩ (fun hHeld => ?_)
                clear hK K
                refine norm_ (a' := ?_) ?_ ?_
                rotate_left
                ·show Act.put _ (some 10) _ = _
                 simp only [Act.put, sa, i64_w, i32_w]
                 rfl
                refine one_ (i := 10) (N := some 9) spec_l23Word.m27 rfl rfl (one_of HT_.out (by kernel_rfl)) (by decide) (fun K hK => ?_)
                refine box_step ?hg (N := 9) ?hd (cs := #[.int .i64 0, .int .i64 0]) (t := 42) ?hr ?_; (case hd => rfl); (case hg => rfl); (case hr => first | (go_simp; done) | (go_simp; rfl))
                intro gb409 hg w76 hbox hb
                have HS0_ := (hb.cell (World.block_lt_of_cell? _ _ (hHeld.1))).trans (hHeld.1)
                have HS1_ := (hb.cell (World.block_lt_of_cell? _ _ (hHeld.2.1))).trans (hHeld.2.1)
                have HS2_ := (hb.cell (World.block_lt_of_cell? _ _ (hHeld.2.2.1))).trans (hHeld.2.2.1)
                have HS3_ := (hb.cell (World.block_lt_of_cell? _ _ (hHeld.2.2.2))).trans (hHeld.2.2.2)
                have n0_ := am (Kd.R_below (by (with_reducible repeat (first | apply Kd.R_alloc | apply Kd.R_drewN | apply Kd.R_drew)); exact HO398.out) hb)
                have n1_ := am (Kd.R_below (Kd.R_elderB (by (with_reducible repeat (first | apply Kd.R_alloc | apply Kd.R_drewN | apply Kd.R_drew)); exact HO401.out) gb409 (Nat.le_of_eq hg.symm)) hb)
                have n2_ := am (Kd.R_below (Kd.R_elderB (by (with_reducible repeat (first | apply Kd.R_alloc | apply Kd.R_drewN | apply Kd.R_drew)); exact HO406.out) gb409 (Nat.le_of_eq hg.symm)) hb)
                have n3_ := am (k4 (g := gb394) (o := .cells #[.int .i64 ((rd_T42 l0 0).f0), .int .i64 ((rd_T42 l0 0).f1)] 42 (0, 0)) (by (with_reducible repeat (first | refine k2 ?_ _ | refine k3 ?_ | refine k1 ?_ _)); exact BK394.out) hb)
                have n4_ := am (k4 (g := gb395) (o := .cells #[.int .i64 (wrap64 (x396000_1 + ((rd_T42 y399 x6_1).f0))), .int .i64 (wrap64 (x396001_1 + ((rd_T42 y399 x6_1).f1)))] 42 (0, 0)) (by (with_reducible repeat (first | refine k2 ?_ _ | refine k3 ?_ | refine k1 ?_ _)); exact BK395.out) hb)
                have n5_ := am (k4 (g := gb410) (o := .cells #[.int .i64 0, .int .i64 0] 42 (0, 0)) (by (with_reducible repeat (first | refine k2 ?_ _ | refine k3 ?_ | refine k1 ?_ _)); exact BK410.out) hb)
                have n6_ := am (b6 (by repeat (first | (with_reducible first | exact HB.out | apply b1 | apply b2 | apply b3 | refine b4 ?_ GE394.out | refine b4 ?_ GE395.out | refine b4 ?_ GE410.out) | exact HB.out)) hb)
                have n7_ := am (hbox)
                have n8_ := am ((by rw [hg]; exact (b5 (by repeat (first | (with_reducible first | exact HB.out | apply b1 | apply b2 | apply b3 | refine b4 ?_ GE394.out | refine b4 ?_ GE395.out | refine b4 ?_ GE410.out) | exact HB.out))) : w.heap.size ≤ gb409))
                have n9_ := am ((by rw [hg]; exact (b5 (by repeat (first | (with_reducible first | exact HB.out | apply b1 | apply b2 | apply b3 | refine b4 ?_ GE394.out | refine b4 ?_ GE395.out | refine b4 ?_ GE410.out) | exact HB.out))) : w.heap.size ≤ gb409))
                have n10_ := am ((by rw [hg]; exact nl (k5 (g := gb394) (o := .cells #[.int .i64 ((rd_T42 l0 0).f0), .int .i64 ((rd_T42 l0 0).f1)] 42 (0, 0)) (by (with_reducible repeat (first | refine k2 ?_ _ | refine k3 ?_ | refine k1 ?_ _)); exact BK394.out)) : gb394 ≠ gb409))
                have n11_ := am ((by rw [hg]; exact ng (k5 (g := gb394) (o := .cells #[.int .i64 ((rd_T42 l0 0).f0), .int .i64 ((rd_T42 l0 0).f1)] 42 (0, 0)) (by (with_reducible repeat (first | refine k2 ?_ _ | refine k3 ?_ | refine k1 ?_ _)); exact BK394.out)) : gb409 ≠ gb394))
                have n12_ := am ((by rw [hg]; exact nl (k5 (g := gb395) (o := .cells #[.int .i64 (wrap64 (x396000_1 + ((rd_T42 y399 x6_1).f0))), .int .i64 (wrap64 (x396001_1 + ((rd_T42 y399 x6_1).f1)))] 42 (0, 0)) (by (with_reducible repeat (first | refine k2 ?_ _ | refine k3 ?_ | refine k1 ?_ _)); exact BK395.out)) : gb395 ≠ gb409))
                have n13_ := am ((by rw [hg]; exact ng (k5 (g := gb395) (o := .cells #[.int .i64 (wrap64 (x396000_1 + ((rd_T42 y399 x6_1).f0))), .int .i64 (wrap64 (x396001_1 + ((rd_T42 y399 x6_1).f1)))] 42 (0, 0)) (by (with_reducible repeat (first | refine k2 ?_ _ | refine k3 ?_ | refine k1 ?_ _)); exact BK395.out)) : gb409 ≠ gb395))
                have n14_ := am ((by rw [hg]; exact nl (k5 (g := gb410) (o := .cells #[.int .i64 0, .int .i64 0] 42 (0, 0)) (by (with_reducible repeat (first | refine k2 ?_ _ | refine k3 ?_ | refine k1 ?_ _)); exact BK410.out)) : gb410 ≠ gb409))
                have n15_ := am ((by rw [hg]; exact ng (k5 (g := gb410) (o := .cells #[.int .i64 0, .int .i64 0] 42 (0, 0)) (by (with_reducible repeat (first | refine k2 ?_ _ | refine k3 ?_ | refine k1 ?_ _)); exact BK410.out)) : gb409 ≠ gb410))
                clear HO398
                clear HO401
                clear HO406
                clear BK394
                clear BK395
                clear BK410
                clear HB
                have HO398 := n0_
                have HO401 := n1_
                have HO406 := n2_
                have BK394 := n3_
                have BK395 := n4_
                have BK410 := n5_
                have HB := n6_
                have BK409 := n7_
                have GW409 := n8_
                have GE409 := n9_
                have NB394_409 := n10_
                have NB409_394 := n11_
                have NB395_409 := n12_
                have NB409_395 := n13_
                have NB410_409 := n14_
                have NB409_410 := n15_
                clear n0_ n1_ n2_ n3_ n4_ n5_ n6_ n7_ n8_ n9_ n10_ n11_ n12_ n13_ n14_ n15_
                clear hb hbox hg
                refine hK.out _ _ ⟨HS0_, HS1_, HS2_, HS3_⟩ (fun hHeld => ?_)
                clear hK K
                refine norm_ (a' := ?_) ?_ ?_
                rotate_left
                ·show Act.put _ (some 9) _ = _
                 simp only [Act.put, sa, i64_w, i32_w]
                 rfl
                exact norm_ (by simp only [putAll, Act.put, sa]) (hCont (gb409, gb410) _ ⟨hHeld, (by (with_reducible repeat (first | apply Kd.R_alloc | apply Kd.R_drewN | apply Kd.R_drew)); exact HO398.out), (by (with_reducible repeat (first | apply Kd.R_alloc | apply Kd.R_drewN | apply Kd.R_drew)); exact Kd.R_mono HO401.out (fun _ hk => ⟨hk.1.1.2, ⟨hk.1.1.1.1.2, ⟨hk.1.1.1.2, ⟨hk.2, hk.1.2⟩⟩⟩⟩)), (by (with_reducible repeat (first | apply Kd.R_alloc | apply Kd.R_drewN | apply Kd.R_drew)); exact Kd.R_mono HO406.out (fun _ hk => ⟨hk.1.1.1.1.2, ⟨hk.1.1.1.2, ⟨hk.1.1.2, ⟨hk.2, hk.1.2⟩⟩⟩⟩)), (by (with_reducible repeat (first | refine k2 ?_ _ | refine k3 ?_ | refine k1 ?_ _)); exact BK394.out), (by (with_reducible repeat (first | refine k2 ?_ _ | refine k3 ?_ | refine k1 ?_ _)); exact BK395.out), (by (with_reducible repeat (first | refine k2 ?_ _ | refine k3 ?_ | refine k1 ?_ _)); exact BK409.out), (by (with_reducible repeat (first | refine k2 ?_ _ | refine k3 ?_ | refine k1 ?_ _)); exact BK410.out), GW409.out, GE409.out, NB394_409.out, NB409_394.out, NB395_409.out, NB409_395.out, NB410_409.out, NB409_410.out, GW410.out, GE410.out, NB394_410.out, NB410_394.out, NB395_410.out, NB410_395.out, (by repeat (first | (with_reducible first | exact HB.out | apply b1 | apply b2 | apply b3 | refine b4 ?_ GE394.out | refine b4 ?_ GE395.out | refine b4 ?_ GE410.out | refine b4 ?_ GE409.out) | exact HB.out))⟩)
              rintro ⟨gb409, gb410⟩ w77 ⟨hS_, h0_, h1_, h2_, h3_, h4_, h5_, h6_, h7_, h8_, h9_, h10_, h11_, h12_, h13_, h14_, h15_, h16_, h17_, h18_, h19_, h20_, h21_⟩
              have n0_ : Aside0 (Kd.R (Kd.int .u8) 5 w77 w.heap.size (fun _ => True) v397 y396) := ⟨h0_⟩
              have n1_ : Aside0 (Kd.R k42 42 w77 w.heap.size (fun k_ => some k_ ≠ (.slice (some ad407) y404.length co74 : Value).ownBlock ∧ k_ ≠ gb394 ∧ k_ ≠ gb395 ∧ k_ ≠ gb409 ∧ k_ ≠ gb410) (.slice (some ad402) y399.length co65) y399) := ⟨h1_⟩
              have n2_ : Aside0 (Kd.R k42 42 w77 w.heap.size (fun k_ => some k_ ≠ (.slice (some ad402) y399.length co65 : Value).ownBlock ∧ k_ ≠ gb394 ∧ k_ ≠ gb395 ∧ k_ ≠ gb409 ∧ k_ ≠ gb410) (.slice (some ad407) y404.length co74) y404) := ⟨h2_⟩
              have n3_ : Aside0 (w77.heap[gb394]? = some (.cells #[.int .i64 ((rd_T42 l0 0).f0), .int .i64 ((rd_T42 l0 0).f1)] 42 (0, 0))) := ⟨h3_⟩
              have n4_ : Aside0 (w77.heap[gb395]? = some (.cells #[.int .i64 (wrap64 (x396000_1 + ((rd_T42 y399 x6_1).f0))), .int .i64 (wrap64 (x396001_1 + ((rd_T42 y399 x6_1).f1)))] 42 (0, 0))) := ⟨h4_⟩
              have n5_ : Aside0 (w77.heap[gb409]? = some (.cells #[.int .i64 0, .int .i64 0] 42 (0, 0))) := ⟨h5_⟩
              have n6_ : Aside0 (w77.heap[gb410]? = some (.cells #[.int .i64 0, .int .i64 0] 42 (0, 0))) := ⟨h6_⟩
              have n7_ : Aside0 (w.heap.size ≤ gb409) := ⟨h7_⟩
              have n8_ : Aside0 (w.heap.size ≤ gb409) := ⟨h8_⟩
              have n9_ : Aside0 (gb394 ≠ gb409) := ⟨h9_⟩
              have n10_ : Aside0 (gb409 ≠ gb394) := ⟨h10_⟩
              have n11_ : Aside0 (gb395 ≠ gb409) := ⟨h11_⟩
              have n12_ : Aside0 (gb409 ≠ gb395) := ⟨h12_⟩
              have n13_ : Aside0 (gb410 ≠ gb409) := ⟨h13_⟩
              have n14_ : Aside0 (gb409 ≠ gb410) := ⟨h14_⟩
              have n15_ : Aside0 (w.heap.size ≤ gb410) := ⟨h15_⟩
              have n16_ : Aside0 (w.heap.size ≤ gb410) := ⟨h16_⟩
              have n17_ : Aside0 (gb394 ≠ gb410) := ⟨h17_⟩
              have n18_ : Aside0 (gb410 ≠ gb394) := ⟨h18_⟩
              have n19_ : Aside0 (gb395 ≠ gb410) := ⟨h19_⟩
              have n20_ : Aside0 (gb410 ≠ gb395) := ⟨h20_⟩
              have n21_ : Aside0 (Below w.heap.size w w77) := ⟨h21_⟩
              clear HO398
              clear HO401
              clear HO406
              clear BK394
              clear BK395
              clear HB
              clear h0_ h1_ h2_ h3_ h4_ h5_ h6_ h7_ h8_ h9_ h10_ h11_ h12_ h13_ h14_ h15_ h16_ h17_ h18_ h19_ h20_ h21_
              have HO398 := n0_
              have HO401 := n1_
              have HO406 := n2_
              have BK394 := n3_
              have BK395 := n4_
              have BK409 := n5_
              have BK410 := n6_
              have GW409 := n7_
              have GE409 := n8_
              have NB394_409 := n9_
              have NB409_394 := n10_
              have NB395_409 := n11_
              have NB409_395 := n12_
              have NB410_409 := n13_
              have NB409_410 := n14_
              have GW410 := n15_
              have GE410 := n16_
              have NB394_410 := n17_
              have NB410_394 := n18_
              have NB395_410 := n19_
              have NB410_395 := n20_
              have HB := n21_
              clear n0_ n1_ n2_ n3_ n4_ n5_ n6_ n7_ n8_ n9_ n10_ n11_ n12_ n13_ n14_ n15_ n16_ n17_ n18_ n19_ n20_ n21_
              have hHeld : w77.cell? (ad407.add ((x6_1).toNat * 2)) = some (.int .i64 ((rd_T42 y404 x6_1).f0)) ∧ w77.cell? ⟨(ad407.add ((x6_1).toNat * 2)).block, (ad407.add ((x6_1).toNat * 2)).off + 1, none⟩ = some (.int .i64 ((rd_T42 y404 x6_1).f1)) ∧ w77.cell? (ad407.add (((ji28)).toNat * 2)) = some (.int .i64 ((rd_T42 y404 (ji28)).f0)) ∧ w77.cell? ⟨(ad407.add (((ji28)).toNat * 2)).block, (ad407.add (((ji28)).toNat * 2)).off + 1, none⟩ = some (.int .i64 ((rd_T42 y404 (ji28)).f1)) := hS_
              refine norm_ (a' := ?_) ?_ ?_
              rotate_left
              ·simp only [putAll, Act.put, sa]
               rfl
              refine one_ (i := 12) (N := none) spec_l23Word.m28 rfl rfl (one_of HT_.out (by kernel_rfl)) (by decide) (fun K hK => ?_)
              have hs78 : w77.cell? ⟨gb409, 0, none⟩ = some (.int .i64 0) := (kc BK409.out 0).trans rfl
              have hfs78 := kf BK409.out 0
              have hns78_0 := NB394_409.out
              have hns78_1 := NB395_409.out
              have hns78_3 := NB410_409.out
              have hms78_0 := NB409_394.out
              have hms78_1 := NB409_395.out
              have hms78_3 := NB409_410.out
              have hs79 : w77.cell? ⟨gb409, 1, none⟩ = some (.int .i64 0) := (kc BK409.out 1).trans rfl
              have hfs79 := kf BK409.out 1
              have hns79_0 := NB394_409.out
              have hns79_1 := NB395_409.out
              have hns79_3 := NB410_409.out
              have hms79_0 := NB409_394.out
              have hms79_1 := NB409_395.out
              have hms79_3 := NB409_410.out
              refine skip_ (w1 := ?_) (by rfl) rfl ?_ ?_
              rotate_left
              ·go_simp
               rfl
              refine hK.out _ _ ⟨((cell_far (p := ⟨gb409, _, none⟩) (by first | exact Kd.own_blk (Kd.R_away HO406.out (fun _ hk => hk.2.2.2.1)) | (rw [add_block]; exact Kd.own_blk (Kd.R_away HO406.out (fun _ hk => hk.2.2.2.1))) | (show (Addr.add _ _).block ≠ _; rw [add_block]; exact Kd.own_blk (Kd.R_away HO406.out (fun _ hk => hk.2.2.2.1))) | (dsimp only; exact Kd.own_blk (Kd.R_away HO406.out (fun _ hk => hk.2.2.2.1)))) _).trans (((cell_far (p := ⟨gb409, _, none⟩) (by first | exact Kd.own_blk (Kd.R_away HO406.out (fun _ hk => hk.2.2.2.1)) | (rw [add_block]; exact Kd.own_blk (Kd.R_away HO406.out (fun _ hk => hk.2.2.2.1))) | (show (Addr.add _ _).block ≠ _; rw [add_block]; exact Kd.own_blk (Kd.R_away HO406.out (fun _ hk => hk.2.2.2.1))) | (dsimp only; exact Kd.own_blk (Kd.R_away HO406.out (fun _ hk => hk.2.2.2.1)))) _).trans (hHeld.1)))), ((cell_far (p := ⟨gb409, _, none⟩) (by first | exact Kd.own_blk (Kd.R_away HO406.out (fun _ hk => hk.2.2.2.1)) | (rw [add_block]; exact Kd.own_blk (Kd.R_away HO406.out (fun _ hk => hk.2.2.2.1))) | (show (Addr.add _ _).block ≠ _; rw [add_block]; exact Kd.own_blk (Kd.R_away HO406.out (fun _ hk => hk.2.2.2.1))) | (dsimp only; exact Kd.own_blk (Kd.R_away HO406.out (fun _ hk => hk.2.2.2.1)))) _).trans (((cell_far (p := ⟨gb409, _, none⟩) (by first | exact Kd.own_blk (Kd.R_away HO406.out (fun _ hk => hk.2.2.2.1)) | (rw [add_block]; exact Kd.own_blk (Kd.R_away HO406.out (fun _ hk => hk.2.2.2.1))) | (show (Addr.add _ _).block ≠ _; rw [add_block]; exact Kd.own_blk (Kd.R_away HO406.out (fun _ hk => hk.2.2.2.1))) | (dsimp only; exact Kd.own_blk (Kd.R_away HO406.out (fun _ hk => hk.2.2.2.1)))) _).trans (hHeld.2.1)))), ((cell_far (p := ⟨gb409, _, none⟩) (by first | exact Kd.own_blk (Kd.R_away HO406.out (fun _ hk => hk.2.2.2.1)) | (rw [add_block]; exact Kd.own_blk (Kd.R_away HO406.out (fun _ hk => hk.2.2.2.1))) | (show (Addr.add _ _).block ≠ _; rw [add_block]; exact Kd.own_blk (Kd.R_away HO406.out (fun _ hk => hk.2.2.2.1))) | (dsimp only; exact Kd.own_blk (Kd.R_away HO406.out (fun _ hk => hk.2.2.2.1)))) _).trans (((cell_far (p := ⟨gb409, _, none⟩) (by first | exact Kd.own_blk (Kd.R_away HO406.out (fun _ hk => hk.2.2.2.1)) | (rw [add_block]; exact Kd.own_blk (Kd.R_away HO406.out (fun _ hk => hk.2.2.2.1))) | (show (Addr.add _ _).block ≠ _; rw [add_block]; exact Kd.own_blk (Kd.R_away HO406.out (fun _ hk => hk.2.2.2.1))) | (dsimp only; exact Kd.own_blk (Kd.R_away HO406.out (fun _ hk => hk.2.2.2.1)))) _).trans (hHeld.2.2.1)))), ((cell_far (p := ⟨gb409, _, none⟩) (by first | exact Kd.own_blk (Kd.R_away HO406.out (fun _ hk => hk.2.2.2.1)) | (rw [add_block]; exact Kd.own_blk (Kd.R_away HO406.out (fun _ hk => hk.2.2.2.1))) | (show (Addr.add _ _).block ≠ _; rw [add_block]; exact Kd.own_blk (Kd.R_away HO406.out (fun _ hk => hk.2.2.2.1))) | (dsimp only; exact Kd.own_blk (Kd.R_away HO406.out (fun _ hk => hk.2.2.2.1)))) _).trans (((cell_far (p := ⟨gb409, _, none⟩) (by first | exact Kd.own_blk (Kd.R_away HO406.out (fun _ hk => hk.2.2.2.1)) | (rw [add_block]; exact Kd.own_blk (Kd.R_away HO406.out (fun _ hk => hk.2.2.2.1))) | (show (Addr.add _ _).block ≠ _; rw [add_block]; exact Kd.own_blk (Kd.R_away HO406.out (fun _ hk => hk.2.2.2.1))) | (dsimp only; exact Kd.own_blk (Kd.R_away HO406.out (fun _ hk => hk.2.2.2.1)))) _).trans (hHeld.2.2.2))))⟩ (fun hHeld => ?_)
              clear hK K
              refine one_ (i := 13) (N := none) spec_l23Word.m34 rfl rfl (one_of HT_.out (by kernel_rfl)) (by decide) (fun K hK => ?_)
              have hs80 : w77.cell? ⟨gb410, 0, none⟩ = some (.int .i64 0) := (kc BK410.out 0).trans rfl
              have hfs80 := kf BK410.out 0
              have hns80_0 := NB394_410.out
              have hns80_1 := NB395_410.out
              have hns80_2 := NB409_410.out
              have hms80_0 := NB410_394.out
              have hms80_1 := NB410_395.out
              have hms80_2 := NB410_409.out
              have hs81 : w77.cell? ⟨gb410, 1, none⟩ = some (.int .i64 0) := (kc BK410.out 1).trans rfl
              have hfs81 := kf BK410.out 1
              have hns81_0 := NB394_410.out
              have hns81_1 := NB395_410.out
              have hns81_2 := NB409_410.out
              have hms81_0 := NB410_394.out
              have hms81_1 := NB410_395.out
              have hms81_2 := NB410_409.out
              refine skip_ (w1 := ?_) (by rfl) rfl ?_ ?_
              rotate_left
              ·go_simp
               rfl
              refine hK.out _ _ ⟨((cell_far (p := ⟨gb410, _, none⟩) (by first | exact Kd.own_blk (Kd.R_away HO406.out (fun _ hk => hk.2.2.2.2)) | (rw [add_block]; exact Kd.own_blk (Kd.R_away HO406.out (fun _ hk => hk.2.2.2.2))) | (show (Addr.add _ _).block ≠ _; rw [add_block]; exact Kd.own_blk (Kd.R_away HO406.out (fun _ hk => hk.2.2.2.2))) | (dsimp only; exact Kd.own_blk (Kd.R_away HO406.out (fun _ hk => hk.2.2.2.2)))) _).trans (((cell_far (p := ⟨gb410, _, none⟩) (by first | exact Kd.own_blk (Kd.R_away HO406.out (fun _ hk => hk.2.2.2.2)) | (rw [add_block]; exact Kd.own_blk (Kd.R_away HO406.out (fun _ hk => hk.2.2.2.2))) | (show (Addr.add _ _).block ≠ _; rw [add_block]; exact Kd.own_blk (Kd.R_away HO406.out (fun _ hk => hk.2.2.2.2))) | (dsimp only; exact Kd.own_blk (Kd.R_away HO406.out (fun _ hk => hk.2.2.2.2)))) _).trans (hHeld.1)))), ((cell_far (p := ⟨gb410, _, none⟩) (by first | exact Kd.own_blk (Kd.R_away HO406.out (fun _ hk => hk.2.2.2.2)) | (rw [add_block]; exact Kd.own_blk (Kd.R_away HO406.out (fun _ hk => hk.2.2.2.2))) | (show (Addr.add _ _).block ≠ _; rw [add_block]; exact Kd.own_blk (Kd.R_away HO406.out (fun _ hk => hk.2.2.2.2))) | (dsimp only; exact Kd.own_blk (Kd.R_away HO406.out (fun _ hk => hk.2.2.2.2)))) _).trans (((cell_far (p := ⟨gb410, _, none⟩) (by first | exact Kd.own_blk (Kd.R_away HO406.out (fun _ hk => hk.2.2.2.2)) | (rw [add_block]; exact Kd.own_blk (Kd.R_away HO406.out (fun _ hk => hk.2.2.2.2))) | (show (Addr.add _ _).block ≠ _; rw [add_block]; exact Kd.own_blk (Kd.R_away HO406.out (fun _ hk => hk.2.2.2.2))) | (dsimp only; exact Kd.own_blk (Kd.R_away HO406.out (fun _ hk => hk.2.2.2.2)))) _).trans (hHeld.2.1)))), ((cell_far (p := ⟨gb410, _, none⟩) (by first | exact Kd.own_blk (Kd.R_away HO406.out (fun _ hk => hk.2.2.2.2)) | (rw [add_block]; exact Kd.own_blk (Kd.R_away HO406.out (fun _ hk => hk.2.2.2.2))) | (show (Addr.add _ _).block ≠ _; rw [add_block]; exact Kd.own_blk (Kd.R_away HO406.out (fun _ hk => hk.2.2.2.2))) | (dsimp only; exact Kd.own_blk (Kd.R_away HO406.out (fun _ hk => hk.2.2.2.2)))) _).trans (((cell_far (p := ⟨gb410, _, none⟩) (by first | exact Kd.own_blk (Kd.R_away HO406.out (fun _ hk => hk.2.2.2.2)) | (rw [add_block]; exact Kd.own_blk (Kd.R_away HO406.out (fun _ hk => hk.2.2.2.2))) | (show (Addr.add _ _).block ≠ _; rw [add_block]; exact Kd.own_blk (Kd.R_away HO406.out (fun _ hk => hk.2.2.2.2))) | (dsimp only; exact Kd.own_blk (Kd.R_away HO406.out (fun _ hk => hk.2.2.2.2)))) _).trans (hHeld.2.2.1)))), ((cell_far (p := ⟨gb410, _, none⟩) (by first | exact Kd.own_blk (Kd.R_away HO406.out (fun _ hk => hk.2.2.2.2)) | (rw [add_block]; exact Kd.own_blk (Kd.R_away HO406.out (fun _ hk => hk.2.2.2.2))) | (show (Addr.add _ _).block ≠ _; rw [add_block]; exact Kd.own_blk (Kd.R_away HO406.out (fun _ hk => hk.2.2.2.2))) | (dsimp only; exact Kd.own_blk (Kd.R_away HO406.out (fun _ hk => hk.2.2.2.2)))) _).trans (((cell_far (p := ⟨gb410, _, none⟩) (by first | exact Kd.own_blk (Kd.R_away HO406.out (fun _ hk => hk.2.2.2.2)) | (rw [add_block]; exact Kd.own_blk (Kd.R_away HO406.out (fun _ hk => hk.2.2.2.2))) | (show (Addr.add _ _).block ≠ _; rw [add_block]; exact Kd.own_blk (Kd.R_away HO406.out (fun _ hk => hk.2.2.2.2))) | (dsimp only; exact Kd.own_blk (Kd.R_away HO406.out (fun _ hk => hk.2.2.2.2)))) _).trans (hHeld.2.2.2))))⟩ (fun hHeld => ?_)
              clear hK K
              refine done_ (done_of HT_.out (by kernel_rfl)) ?_
              have hnb82 := NB409_394.out
              have hnc82 := NB394_409.out
              have hnb83 := NB409_395.out
              have hnc83 := NB395_409.out
              have hnb84 := NB409_410.out
              have hnc84 := NB410_409.out
              have hcz85_0 : w77.cell? ⟨gb409, 0, none⟩ = some (.int .i64 0) := (kc BK409.out 0).trans rfl
              have hcz85_1 : w77.cell? ⟨gb409, 1, none⟩ = some (.int .i64 0) := (kc BK409.out 1).trans rfl
              have hfz85_0 := kf BK409.out 0
              have hfz85_1 := kf BK409.out 1
              try go_wp2_with (first | ((with_reducible refine gate_callee (f := 70) rfl ?_); refine goesL_ (some 82) rfl rfl Tryd.func70 (by kernel_rfl) rfl #[.slice (some ad393) l0.length c0, .agg #[.int .i64 ((rd_T42 y404 x6_1).f0), .int .i64 ((rd_T42 y404 x6_1).f1)]] rfl (by (try simp only [List.map_toArray, List.map_cons, List.map_nil]); first | done | rfl | (simp only [List.length_drop, List.length_take]; rfl)) ?_; (with_reducible refine (spec_l02Index.calls k1 _ _ l0 ((rd_T42 y404 x6_1).f0) ((rd_T42 y404 x6_1).f1) t411 _ ?side1 ?side2 A31.out).mono ?_); (case side1 => exact Kd.C_below HR0.out (by repeat (first | (with_reducible first | exact HB.out | apply b1 | apply b2 | apply b3 | refine b4 ?_ GE394.out | refine b4 ?_ GE395.out | refine b4 ?_ GE409.out | refine b4 ?_ GE410.out) | exact HB.out))); (case side2 => exact HC0.out); rintro e w86 ⟨rfl, hb⟩; refine ⟨_, rfl, ?_⟩; have n0_ := am (Kd.R_below (by (with_reducible repeat (first | apply Kd.R_alloc | apply Kd.R_drewN | apply Kd.R_drew)); exact (Kd.R_mono (Kd.R_mono (Kd.R_far (p := ⟨gb410, 1, none⟩) (Kd.R_far (p := ⟨gb410, 0, none⟩) (Kd.R_far (p := ⟨gb409, 1, none⟩) (Kd.R_far (p := ⟨gb409, 0, none⟩) (Kd.R_types (Kd.R_types HO398.out BK409.out (by decide)) BK410.out (by decide)) (fun _ hk => hk.1.2) (.int .i64 ((rd_T42 y404 x6_1).f0))) (fun _ hk => hk.1.2) (.int .i64 ((rd_T42 y404 x6_1).f1))) (fun _ hk => hk.2) (.int .i64 ((rd_T42 y404 (ji28)).f0))) (fun _ hk => hk.2) (.int .i64 ((rd_T42 y404 (ji28)).f1))) (fun _ h_ => h_.1)) (fun _ h_ => h_.1))) hb); have n1_ := am (Kd.R_below (by (with_reducible repeat (first | apply Kd.R_alloc | apply Kd.R_drewN | apply Kd.R_drew)); exact (Kd.R_mono (Kd.R_mono (Kd.R_far (p := ⟨gb410, 1, none⟩) (Kd.R_far (p := ⟨gb410, 0, none⟩) (Kd.R_far (p := ⟨gb409, 1, none⟩) (Kd.R_far (p := ⟨gb409, 0, none⟩) (Kd.R_mono (Kd.R_mono HO401.out (fun k_ hk => (⟨hk, hk.2.2.2.1⟩ : _ ∧ k_ ≠ gb409))) (fun k_ hk => (⟨hk, hk.1.2.2.2.2⟩ : _ ∧ k_ ≠ gb410))) (fun _ hk => hk.1.2) (.int .i64 ((rd_T42 y404 x6_1).f0))) (fun _ hk => hk.1.2) (.int .i64 ((rd_T42 y404 x6_1).f1))) (fun _ hk => hk.2) (.int .i64 ((rd_T42 y404 (ji28)).f0))) (fun _ hk => hk.2) (.int .i64 ((rd_T42 y404 (ji28)).f1))) (fun _ h_ => h_.1)) (fun _ h_ => h_.1))) hb); have n2_ := am (Kd.R_below (by (with_reducible repeat (first | apply Kd.R_alloc | apply Kd.R_drewN | apply Kd.R_drew)); exact (Kd.R_mono (Kd.R_mono (Kd.R_far (p := ⟨gb410, 1, none⟩) (Kd.R_far (p := ⟨gb410, 0, none⟩) (Kd.R_far (p := ⟨gb409, 1, none⟩) (Kd.R_far (p := ⟨gb409, 0, none⟩) (Kd.R_mono (Kd.R_mono HO406.out (fun k_ hk => (⟨hk, hk.2.2.2.1⟩ : _ ∧ k_ ≠ gb409))) (fun k_ hk => (⟨hk, hk.1.2.2.2.2⟩ : _ ∧ k_ ≠ gb410))) (fun _ hk => hk.1.2) (.int .i64 ((rd_T42 y404 x6_1).f0))) (fun _ hk => hk.1.2) (.int .i64 ((rd_T42 y404 x6_1).f1))) (fun _ hk => hk.2) (.int .i64 ((rd_T42 y404 (ji28)).f0))) (fun _ hk => hk.2) (.int .i64 ((rd_T42 y404 (ji28)).f1))) (fun _ h_ => h_.1)) (fun _ h_ => h_.1))) hb); have n3_ := am (k4 (g := gb394) (o := .cells #[.int .i64 ((rd_T42 l0 0).f0), .int .i64 ((rd_T42 l0 0).f1)] 42 (0, 0)) (by (with_reducible repeat (first | refine k2 ?_ _ | refine k3 ?_ | refine k1 ?_ _)); refine blk_far ?_ NB394_410.out _; (with_reducible repeat (first | refine k2 ?_ _ | refine k3 ?_ | refine k1 ?_ _)); refine blk_far ?_ NB394_410.out _; (with_reducible repeat (first | refine k2 ?_ _ | refine k3 ?_ | refine k1 ?_ _)); refine blk_far ?_ NB394_409.out _; (with_reducible repeat (first | refine k2 ?_ _ | refine k3 ?_ | refine k1 ?_ _)); refine blk_far ?_ NB394_409.out _; (with_reducible repeat (first | refine k2 ?_ _ | refine k3 ?_ | refine k1 ?_ _)); exact BK394.out) hb); have n4_ := am (k4 (g := gb395) (o := .cells #[.int .i64 (wrap64 (x396000_1 + ((rd_T42 y399 x6_1).f0))), .int .i64 (wrap64 (x396001_1 + ((rd_T42 y399 x6_1).f1)))] 42 (0, 0)) (by (with_reducible repeat (first | refine k2 ?_ _ | refine k3 ?_ | refine k1 ?_ _)); refine blk_far ?_ NB395_410.out _; (with_reducible repeat (first | refine k2 ?_ _ | refine k3 ?_ | refine k1 ?_ _)); refine blk_far ?_ NB395_410.out _; (with_reducible repeat (first | refine k2 ?_ _ | refine k3 ?_ | refine k1 ?_ _)); refine blk_far ?_ NB395_409.out _; (with_reducible repeat (first | refine k2 ?_ _ | refine k3 ?_ | refine k1 ?_ _)); refine blk_far ?_ NB395_409.out _; (with_reducible repeat (first | refine k2 ?_ _ | refine k3 ?_ | refine k1 ?_ _)); exact BK395.out) hb); have n5_ := am (k4 (g := gb409) (o := .cells #[.int .i64 ((rd_T42 y404 x6_1).f0), .int .i64 ((rd_T42 y404 x6_1).f1)] 42 (0, 0)) (by (with_reducible repeat (first | refine k2 ?_ _ | refine k3 ?_ | refine k1 ?_ _)); refine blk_far ?_ NB409_410.out _; (with_reducible repeat (first | refine k2 ?_ _ | refine k3 ?_ | refine k1 ?_ _)); refine blk_far ?_ NB409_410.out _; (with_reducible repeat (first | refine k2 ?_ _ | refine k3 ?_ | refine k1 ?_ _)); refine blk_put (cs := #[.int .i64 ((rd_T42 y404 x6_1).f0), .int .i64 0]) ?_ 1 _ rfl; (with_reducible repeat (first | refine k2 ?_ _ | refine k3 ?_ | refine k1 ?_ _)); refine blk_put (cs := #[.int .i64 0, .int .i64 0]) ?_ 0 _ rfl; (with_reducible repeat (first | refine k2 ?_ _ | refine k3 ?_ | refine k1 ?_ _)); exact BK409.out) hb); have n6_ := am (k4 (g := gb410) (o := .cells #[.int .i64 ((rd_T42 y404 (ji28)).f0), .int .i64 ((rd_T42 y404 (ji28)).f1)] 42 (0, 0)) (by (with_reducible repeat (first | refine k2 ?_ _ | refine k3 ?_ | refine k1 ?_ _)); refine blk_put (cs := #[.int .i64 ((rd_T42 y404 (ji28)).f0), .int .i64 0]) ?_ 1 _ rfl; (with_reducible repeat (first | refine k2 ?_ _ | refine k3 ?_ | refine k1 ?_ _)); refine blk_put (cs := #[.int .i64 0, .int .i64 0]) ?_ 0 _ rfl; (with_reducible repeat (first | refine k2 ?_ _ | refine k3 ?_ | refine k1 ?_ _)); refine blk_far ?_ NB410_409.out _; (with_reducible repeat (first | refine k2 ?_ _ | refine k3 ?_ | refine k1 ?_ _)); refine blk_far ?_ NB410_409.out _; (with_reducible repeat (first | refine k2 ?_ _ | refine k3 ?_ | refine k1 ?_ _)); exact BK410.out) hb); have n7_ := am (b6 (by repeat (first | (with_reducible first | exact HB.out | apply b1 | apply b2 | apply b3 | refine b4 ?_ GE394.out | refine b4 ?_ GE395.out | refine b4 ?_ GE409.out | refine b4 ?_ GE410.out) | exact HB.out)) hb); clear HO398; clear HO401; clear HO406; clear BK394; clear BK395; clear BK409; clear BK410; clear HB; have HO398 := n0_; have HO401 := n1_; have HO406 := n2_; have BK394 := n3_; have BK395 := n4_; have BK409 := n5_; have BK410 := n6_; have HB := n7_; clear n0_ n1_ n2_ n3_ n4_ n5_ n6_ n7_; (try clear hb); (try clear hb2); (try clear hk); (try clear hi); have hnb87 := NB410_394.out; have hnc87 := NB394_410.out; have hnb88 := NB410_395.out; have hnc88 := NB395_410.out; have hcz89_0 : w86.cell? ⟨gb410, 0, none⟩ = some (.int .i64 ((rd_T42 y404 (ji28)).f0)) := (kc BK410.out 0).trans rfl; have hcz89_1 : w86.cell? ⟨gb410, 1, none⟩ = some (.int .i64 ((rd_T42 y404 (ji28)).f1)) := (kc BK410.out 1).trans rfl; have hfz89_0 := kf BK410.out 0; have hfz89_1 := kf BK410.out 1) | ((with_reducible refine gate_callee (f := 70) rfl ?_); refine goesL_ (some 90) rfl rfl Tryd.func70 (by kernel_rfl) rfl #[.slice (some ad393) l0.length c0, .agg #[.int .i64 ((rd_T42 y404 (ji28)).f0), .int .i64 ((rd_T42 y404 (ji28)).f1)]] rfl (by (try simp only [List.map_toArray, List.map_cons, List.map_nil]); first | done | (simp only [hji28]; rfl) | rfl | (simp only [List.length_drop, List.length_take]; rfl)) ?_; (with_reducible refine (spec_l02Index.calls k1 _ _ l0 ((rd_T42 y404 (ji28)).f0) ((rd_T42 y404 (ji28)).f1) t412 _ ?side1 ?side2 A59.out).mono ?_); (case side1 => repeat (first | exact (Kd.C_below HR0.out HB.out) | (with_reducible refine Kd.C_alloc ?_ _) | (with_reducible refine Kd.C_drewN ?_ _) | (with_reducible refine Kd.C_drew ?_))); (case side2 => exact HC0.out); rintro e w90 ⟨rfl, hb⟩; refine ⟨_, rfl, ?_⟩; have n0_ := am (Kd.R_below (by (with_reducible repeat (first | apply Kd.R_alloc | apply Kd.R_drewN | apply Kd.R_drew)); exact HO398.out) hb); have n1_ := am (Kd.R_below (by (with_reducible repeat (first | apply Kd.R_alloc | apply Kd.R_drewN | apply Kd.R_drew)); exact HO401.out) hb); have n2_ := am (Kd.R_below (by (with_reducible repeat (first | apply Kd.R_alloc | apply Kd.R_drewN | apply Kd.R_drew)); exact HO406.out) hb); have n3_ := am (k4 (g := gb394) (o := .cells #[.int .i64 ((rd_T42 l0 0).f0), .int .i64 ((rd_T42 l0 0).f1)] 42 (0, 0)) (by (with_reducible repeat (first | refine k2 ?_ _ | refine k3 ?_ | refine k1 ?_ _)); exact BK394.out) hb); have n4_ := am (k4 (g := gb395) (o := .cells #[.int .i64 (wrap64 (x396000_1 + ((rd_T42 y399 x6_1).f0))), .int .i64 (wrap64 (x396001_1 + ((rd_T42 y399 x6_1).f1)))] 42 (0, 0)) (by (with_reducible repeat (first | refine k2 ?_ _ | refine k3 ?_ | refine k1 ?_ _)); exact BK395.out) hb); have n5_ := am (k4 (g := gb409) (o := .cells #[.int .i64 ((rd_T42 y404 x6_1).f0), .int .i64 ((rd_T42 y404 x6_1).f1)] 42 (0, 0)) (by (with_reducible repeat (first | refine k2 ?_ _ | refine k3 ?_ | refine k1 ?_ _)); exact BK409.out) hb); have n6_ := am (k4 (g := gb410) (o := .cells #[.int .i64 ((rd_T42 y404 (ji28)).f0), .int .i64 ((rd_T42 y404 (ji28)).f1)] 42 (0, 0)) (by (with_reducible repeat (first | refine k2 ?_ _ | refine k3 ?_ | refine k1 ?_ _)); exact BK410.out) hb); have n7_ := am (b6 (by repeat (first | (with_reducible first | exact HB.out | apply b1 | apply b2 | apply b3 | refine b4 ?_ GE394.out | refine b4 ?_ GE395.out | refine b4 ?_ GE409.out | refine b4 ?_ GE410.out) | exact HB.out)) hb); clear HO398; clear HO401; clear HO406; clear BK394; clear BK395; clear BK409; clear BK410; clear HB; have HO398 := n0_; have HO401 := n1_; have HO406 := n2_; have BK394 := n3_; have BK395 := n4_; have BK409 := n5_; have BK410 := n6_; have HB := n7_; clear n0_ n1_ n2_ n3_ n4_ n5_ n6_ n7_; (try clear hb); (try clear hb2); (try clear hk); (try clear hi)))
              go_roundg k1
              case measure => have := HK1.out; omega
              case rel => exact ⟨(y396), (ji28), (wrap64 (x396000_1 + ((rd_T42 y399 x6_1).f0))), (wrap64 (x396001_1 + ((rd_T42 y399 x6_1).f1))), (by first | rfl | (simp; done) | (simp only [← hji28] <;> (first | rfl | simp)) | (simp [*]; done)), H', ⟨by have := HK1.out; omega⟩, ⟨by (with_reducible repeat (first | apply Kd.R_alloc | apply Kd.R_drewN | apply Kd.R_drew)); exact HO398.out⟩, ⟨by (with_reducible repeat (first | refine k2 ?_ _ | refine k3 ?_ | refine k1 ?_ _)); exact BK394.out⟩, ⟨by (with_reducible repeat (first | refine k2 ?_ _ | refine k3 ?_ | refine k1 ?_ _)); exact BK395.out⟩, ⟨by repeat (first | (with_reducible first | exact HB.out | apply b1 | apply b2 | apply b3 | refine b4 ?_ GE394.out | refine b4 ?_ GE395.out | refine b4 ?_ GE409.out | refine b4 ?_ GE410.out) | exact HB.out)⟩⟩
             ·rw [if_neg c60] at H
              have c60b0 : decide (t412 < 0) = false := decide_eq_false c60
              clear c60
              have H' := am H
              clear H
              have p12 : 0 ≤ (x6_1 : Int) := of_decide_eq_true (by first | (with_reducible assumption) | assumption)
              have q12 : x6_1 < (4 : Int) := of_decide_eq_true (by first | (with_reducible assumption) | assumption)
              have hx12 := bt_at (⟨#[114, 100, 108, 117]⟩ : ByteArray) x6_1
              replace p12 := eq_true p12
              replace q12 := eq_true q12
              try go_wp2_with (first | ((with_reducible refine gate_builtin (b := .append) (xs := #[.tmp 16, .tmp 19]) rfl ?_); at_builtin; refine Kd.R_append (Kd.int .u8) (w0 := w) w.heap.size rfl (.tmp 16) (.tmp 19) 32 5 (.int .u8 0) 1 rfl Tryd.underlying32 info5 rfl (by decide) (by omega) u3 x3_1 (bt (⟨#[114, 100, 108, 117]⟩ : ByteArray) x6_1) [.int .u8 (bt (⟨#[114, 100, 108, 117]⟩ : ByteArray) x6_1)] (fun _ => True) (fun _ => False) rfl rfl ?aP (fun _ hk => hk.elim) ?aF ?aO ?aB ?aS ?aL ?_; (case aP => exact rfl); (case aB => exact (by repeat (first | (with_reducible first | exact HB.out | apply b1 | apply b2 | apply b3 | refine b4 ?_ GE394.out | refine b4 ?_ GE395.out) | exact HB.out))); (case aF => exact (fun _ _ => trivial)); (case aO => exact (by (with_reducible repeat (first | apply Kd.R_alloc | apply Kd.R_drewN | apply Kd.R_drew)); exact HO_3.out)); (case aS => exact (b5 (by repeat (first | (with_reducible first | exact HB.out | apply b1 | apply b2 | apply b3 | refine b4 ?_ GE394.out | refine b4 ?_ GE395.out) | exact HB.out)))); (case aL => have := LMc13.out; omega); intro v397 w91 ho hb hg hat; rw [← Ny396.out] at ho; have n0_ := am (blk_grown (g := gb394) (o := .cells #[.int .i64 ((rd_T42 l0 0).f0), .int .i64 ((rd_T42 l0 0).f1)] 42 (0, 0)) (by (with_reducible repeat (first | refine k2 ?_ _ | refine k3 ?_ | refine k1 ?_ _)); exact BK394.out) hg (Kd.R_ne HO_3.out BK394.out (by decide))); have n1_ := am (blk_grown (g := gb395) (o := .cells #[.int .i64 x396000_1, .int .i64 x396001_1] 42 (0, 0)) (by (with_reducible repeat (first | refine k2 ?_ _ | refine k3 ?_ | refine k1 ?_ _)); exact BK395.out) hg (Kd.R_ne HO_3.out BK395.out (by decide))); have n2_ := am (hb); have n3_ := am (ho); clear BK394; clear BK395; clear HB; clear HO_3; have BK394 := n0_; have BK395 := n1_; have HB := n2_; have HO398 := n3_; clear n0_ n1_ n2_ n3_; clear ho hb hg hat) | ((with_reducible refine gate_dst (N := 25) rfl ?_); refine Kd.R_lit k42 _ 42 ?hg (N := 25) ?hd (xs := ([(⟨1, 0⟩ : S42), (⟨0, 1⟩ : S42), (⟨(-1), 0⟩ : S42), (⟨0, (-1)⟩ : S42)] : List (S42))) (inner := [.int .i64 1, .int .i64 0, .int .i64 0, .int .i64 1, .int .i64 (-1), .int .i64 0, .int .i64 0, .int .i64 (-1)]) (ok := fun _ => True) (okp := fun _ => True) ?hr ?hp (fun _ hk => hk) trivial (Below.refl _ _) (Nat.le_refl _) (by simp) ?_; (case hd => rfl); (case hg => rfl); (case hr => first | (go_simp; done) | (go_simp; rfl)); (case hp => exact (Reps.c2 (show Kd.M k42 _ _ _ (⟨1, 0⟩ : S42) [.int .i64 1, .int .i64 0] from (k42_mkM _ _ _ (⟨1, 0⟩ : S42) )) (Reps.c2 (show Kd.M k42 _ _ _ (⟨0, 1⟩ : S42) [.int .i64 0, .int .i64 1] from (k42_mkM _ _ _ (⟨0, 1⟩ : S42) )) (Reps.c2 (show Kd.M k42 _ _ _ (⟨(-1), 0⟩ : S42) [.int .i64 (-1), .int .i64 0] from (k42_mkM _ _ _ (⟨(-1), 0⟩ : S42) )) (Reps.c2 (show Kd.M k42 _ _ _ (⟨0, (-1)⟩ : S42) [.int .i64 0, .int .i64 (-1)] from (k42_mkM _ _ _ (⟨0, (-1)⟩ : S42) )) (Reps.none _ _)))))); intro v400 w92 ho93 hb hg_ hnew_; clear hg_ hnew_; (first | rw [← Ny399.out] at ho93 | (simp only [Int.reduceToNat] at ho93; rw [← Ny399.out] at ho93)); have n0_ := am (Kd.R_below (by (with_reducible repeat (first | apply Kd.R_alloc | apply Kd.R_drewN | apply Kd.R_drew)); exact HO398.out) hb); have n1_ := am (Kd.R_lower (Kd.R_newB (Kd.R_newB ho93 (g := gb394) (o := .cells #[.int .i64 ((rd_T42 l0 0).f0), .int .i64 ((rd_T42 l0 0).f1)] 42 (0, 0)) (by (with_reducible repeat (first | refine k2 ?_ _ | refine k3 ?_ | refine k1 ?_ _)); exact BK394.out)) (g := gb395) (o := .cells #[.int .i64 x396000_1, .int .i64 x396001_1] 42 (0, 0)) (by (with_reducible repeat (first | refine k2 ?_ _ | refine k3 ?_ | refine k1 ?_ _)); exact BK395.out)) (b5 (by repeat (first | (with_reducible first | exact HB.out | apply b1 | apply b2 | apply b3 | refine b4 ?_ GE394.out | refine b4 ?_ GE395.out) | exact HB.out)))); have n2_ := am (k4 (g := gb394) (o := .cells #[.int .i64 ((rd_T42 l0 0).f0), .int .i64 ((rd_T42 l0 0).f1)] 42 (0, 0)) (by (with_reducible repeat (first | refine k2 ?_ _ | refine k3 ?_ | refine k1 ?_ _)); exact BK394.out) hb); have n3_ := am (k4 (g := gb395) (o := .cells #[.int .i64 x396000_1, .int .i64 x396001_1] 42 (0, 0)) (by (with_reducible repeat (first | refine k2 ?_ _ | refine k3 ?_ | refine k1 ?_ _)); exact BK395.out) hb); have n4_ := am (b6 (by repeat (first | (with_reducible first | exact HB.out | apply b1 | apply b2 | apply b3 | refine b4 ?_ GE394.out | refine b4 ?_ GE395.out) | exact HB.out)) hb); clear HO398; clear BK394; clear BK395; clear HB; have HO398 := n0_; have HO401 := n1_; have BK394 := n2_; have BK395 := n3_; have HB := n4_; clear n0_ n1_ n2_ n3_ n4_; clear hb ho93))
              have n0_ := am (Kd.R_drew HO398.out)
              have n1_ := am (Kd.R_drew HO401.out)
              have n2_ := am (k3 BK394.out)
              have n3_ := am (k3 BK395.out)
              have n4_ := am (b3 HB.out)
              clear HO398
              clear HO401
              clear BK394
              clear BK395
              clear HB
              have HO398 := n0_
              have HO401 := n1_
              have BK394 := n2_
              have BK395 := n3_
              have HB := n4_
              clear n0_ n1_ n2_ n3_ n4_
              obtain ⟨Ao95, co95, eo95⟩ := Kd.R_slice HO401.out
              (first | subst eo95 | (injection eo95 with f1_ f2_ f3_; have f4_ := f1_.symm; have f5_ := f3_.symm; clear f1_ f2_ f3_; subst f4_; subst f5_))
              have p402 : 0 ≤ (x6_1 : Int) := of_decide_eq_true (by first | (with_reducible assumption) | assumption)
              have q402 : x6_1 < (y399.length : Int) := of_decide_eq_true (by first | (with_reducible assumption) | assumption)
              obtain ⟨ad402, e402, hx402_0, hx402_1⟩ := at_T42 (Kd.R_reads' HO401.out).2.2 x6_1 p402 q402
              cases e402
              replace p402 := eq_true p402
              replace q402 := eq_true q402
              have p403 : 0 ≤ (x6_1 : Int) := of_decide_eq_true (by first | (with_reducible assumption) | assumption)
              have q403 : x6_1 < (y399.length : Int) := of_decide_eq_true (by first | (with_reducible assumption) | assumption)
              obtain ⟨ad403, e403, hx403_0, hx403_1⟩ := at_T42 (Kd.R_reads' HO401.out).2.2 x6_1 p403 q403
              obtain rfl : ad402 = ad403 := (by injection e403)
              replace p403 := eq_true p403
              replace q403 := eq_true q403
              refine start_ (n := 18) (S := fun w' => w'.cell? ⟨gb395, 0, none⟩ = some (.int .i64 x396000_1) ∧ w'.cell? ⟨gb395, 1, none⟩ = some (.int .i64 x396001_1) ∧ w'.cell? (ad402.add ((x6_1).toNat * 2)) = some (.int .i64 ((rd_T42 y399 x6_1).f0)) ∧ w'.cell? ⟨(ad402.add ((x6_1).toNat * 2)).block, (ad402.add ((x6_1).toNat * 2)).off + 1, none⟩ = some (.int .i64 ((rd_T42 y399 x6_1).f1)) ∧ w'.cell? (ad402.add ((x6_1).toNat * 2)) = some (.int .i64 ((rd_T42 y399 x6_1).f0)) ∧ w'.cell? ⟨(ad402.add ((x6_1).toNat * 2)).block, (ad402.add ((x6_1).toNat * 2)).off + 1, none⟩ = some (.int .i64 ((rd_T42 y399 x6_1).f1))) (ds := [17]) spec_l23Word.m0 (by kernel_rfl) rfl rfl ⟨(kc BK395.out 0).trans rfl, (kc BK395.out 1).trans rfl, hx402_0, hx402_1, hx403_0, hx403_1⟩ (fun hHeld => ?_); refine with_tabW spec_l23Word.tab7 spec_l23Word.bits7 (fun HT_ HW_ => ?_)
              generalize w92.drew = w94 at HO398 HO401 BK394 BK395 HB hx402_0 hx402_1 hx403_0 hx403_1 hHeld ⊢
              refine pure_ (i := 0) (N := some 26) (v := ?_) (a' := ?_) spec_l23Word.m2 rfl rfl (any_of HT_.out (by kernel_rfl)) (fun _ _ _ h => h) (Or.inl ⟨by rfl, ?_⟩) ?_ ?_
              rotate_left
              ·intro w'
               go_simp
               with_reducible rfl
              rotate_left
              ·simp only [Act.put, sa, i64_w, i32_w]
               rfl
              refine pure_ (i := 2) (N := some 28) (v := ?_) (a' := ?_) spec_l23Word.m4 rfl rfl (any_of HT_.out (by kernel_rfl)) (fun _ _ _ h => h) (Or.inl ⟨by rfl, ?_⟩) ?_ ?_
              rotate_left
              ·intro w'
               go_simp
               with_reducible rfl
              rotate_left
              ·simp only [Act.put, sa, i64_w, i32_w]
               rfl
              refine pure_ (i := 3) (N := some 29) (v := ?_) (a' := ?_) spec_l23Word.m5 rfl rfl (any_of HT_.out (by kernel_rfl)) (fun _ _ _ h => h) (Or.inl ⟨by rfl, ?_⟩) ?_ ?_
              rotate_left
              ·intro w'
               go_simp
               with_reducible rfl
              rotate_left
              ·simp only [Act.put, sa, i64_w, i32_w]
               rfl
              refine pure_ (i := 4) (N := some 30) (v := ?_) (a' := ?_) spec_l23Word.m6 rfl rfl (any_of HT_.out (by kernel_rfl)) (fun _ _ _ h => h) (Or.inl ⟨by rfl, ?_⟩) ?_ ?_
              rotate_left
              ·intro w'
               go_simp
               with_reducible rfl
              rotate_left
              ·simp only [Act.put, sa, i64_w, i32_w]
               rfl
              refine pure_ (i := 5) (N := some 31) (v := ?_) (a' := ?_) spec_l23Word.m7 rfl rfl (any_of HT_.out (by kernel_rfl)) (fun _ _ _ h => h) (Or.inl ⟨by rfl, ?_⟩) ?_ ?_
              rotate_left
              ·intro w'
               go_simp
               with_reducible rfl
              rotate_left
              ·simp only [Act.put, sa, i64_w, i32_w]
               rfl
              refine pure_ (i := 8) (N := some 34) (v := ?_) (a' := ?_) spec_l23Word.m8 rfl rfl (any_of HT_.out (by kernel_rfl)) (fun _ _ _ h => h) (Or.inl ⟨by rfl, ?_⟩) ?_ ?_
              rotate_left
              ·intro w'
               go_simp
               with_reducible rfl
              rotate_left
              ·simp only [Act.put, sa, i64_w, i32_w]
               rfl
              refine pure_ (i := 10) (N := some 36) (v := ?_) (a' := ?_) spec_l23Word.m9 rfl rfl (any_of HT_.out (by kernel_rfl)) (fun _ _ _ h => h) (Or.inl ⟨by rfl, ?_⟩) ?_ ?_
              rotate_left
              ·intro w'
               go_simp
               with_reducible rfl
              rotate_left
              ·simp only [Act.put, sa, i64_w, i32_w]
               rfl
              refine pure_ (i := 11) (N := some 37) (v := ?_) (a' := ?_) spec_l23Word.m10 rfl rfl (any_of HT_.out (by kernel_rfl)) (fun _ _ _ h => h) (Or.inl ⟨by rfl, ?_⟩) ?_ ?_
              rotate_left
              ·intro w'
               go_simp
               with_reducible rfl
              rotate_left
              ·simp only [Act.put, sa, i64_w, i32_w]
               rfl
              refine pure_ (i := 12) (N := some 38) (v := ?_) (a' := ?_) spec_l23Word.m11 rfl rfl (any_of HT_.out (by kernel_rfl)) (fun _ _ _ h => h) (Or.inl ⟨by rfl, ?_⟩) ?_ ?_
              rotate_left
              ·intro w'
               go_simp
               with_reducible rfl
              rotate_left
              ·simp only [Act.put, sa, i64_w, i32_w]
               rfl
              refine pure_ (i := 13) (N := some 39) (v := ?_) (a' := ?_) spec_l23Word.m12 rfl rfl (any_of HT_.out (by kernel_rfl)) (fun _ _ _ h => h) (Or.inl ⟨by rfl, ?_⟩) ?_ ?_
              rotate_left
              ·intro w'
               go_simp
               with_reducible rfl
              rotate_left
              ·simp only [Act.put, sa, i64_w, i32_w]
               rfl
              refine take_ (i := 1) (N := some 27) (v := ?_) (a' := ?_) spec_l23Word.m20 rfl rfl (take_ofW HT_.out HW_.out (by kernel_rfl)) (fun _ _ _ h => h) (Or.inl ⟨by rfl, ?_⟩) hHeld ?_ ?_
              rotate_left
              ·rintro w' ⟨s0, s1, s2, s3, s4, s5⟩
               go_simp
               with_reducible rfl
              rotate_left
              ·simp only [Act.put, sa, i64_w, i32_w]
               rfl
              refine take_ (i := 6) (N := some 32) (v := ?_) (a' := ?_) spec_l23Word.m21 rfl rfl (take_ofW HT_.out HW_.out (by kernel_rfl)) (fun _ _ _ h => h) (Or.inl ⟨by rfl, ?_⟩) hHeld ?_ ?_
              rotate_left
              ·rintro w' ⟨s0, s1, s2, s3, s4, s5⟩
               go_simp
               with_reducible rfl
              rotate_left
              ·simp only [Act.put, sa, i64_w, i32_w]
               rfl
              refine pure_ (i := 7) (N := some 33) (v := ?_) (a' := ?_) spec_l23Word.m23 rfl rfl (any_of HT_.out (by kernel_rfl)) (fun _ _ _ h => h) (Or.inl ⟨by rfl, ?_⟩) ?_ ?_
              rotate_left
              ·intro w'
               go_simp
               with_reducible rfl
              rotate_left
              ·simp only [Act.put, sa, i64_w, i32_w]
               rfl
              refine take_ (i := 9) (N := some 35) (v := ?_) (a' := ?_) spec_l23Word.m29 rfl rfl (take_ofW HT_.out HW_.out (by kernel_rfl)) (fun _ _ _ h => h) (Or.inl ⟨by rfl, ?_⟩) hHeld ?_ ?_
              rotate_left
              ·rintro w' ⟨s0, s1, s2, s3, s4, s5⟩
               go_simp
               with_reducible rfl
              rotate_left
              ·simp only [Act.put, sa, i64_w, i32_w]
               rfl
              refine take_ (i := 14) (N := some 40) (v := ?_) (a' := ?_) spec_l23Word.m30 rfl rfl (take_ofW HT_.out HW_.out (by kernel_rfl)) (fun _ _ _ h => h) (Or.inl ⟨by rfl, ?_⟩) hHeld ?_ ?_
              rotate_left
              ·rintro w' ⟨s0, s1, s2, s3, s4, s5⟩
               go_simp
               with_reducible rfl
              rotate_left
              ·simp only [Act.put, sa, i64_w, i32_w]
               rfl
              refine pure_ (i := 15) (N := some 41) (v := ?_) (a' := ?_) spec_l23Word.m31 rfl rfl (any_of HT_.out (by kernel_rfl)) (fun _ _ _ h => h) (Or.inl ⟨by rfl, ?_⟩) ?_ ?_
              rotate_left
              ·intro w'
               go_simp
               with_reducible rfl
              rotate_left
              ·simp only [Act.put, sa, i64_w, i32_w]
               rfl
              refine pure_ (i := 16) (N := some 42) (v := ?_) (a' := ?_) spec_l23Word.m32 rfl rfl (any_of HT_.out (by kernel_rfl)) (fun _ _ _ h => h) (Or.inl ⟨by rfl, ?_⟩) ?_ ?_
              rotate_left
              ·intro w'
               go_simp
               with_reducible rfl
              rotate_left
              ·simp only [Act.put, sa, i64_w, i32_w]
               rfl
              refine last_ (i := 17) (N := none) spec_l23Word.m33 rfl rfl (one_of HT_.out (by kernel_rfl)) (by decide) (fun K hK => ?_)
              have hs96 : w94.cell? ⟨gb395, 0, none⟩ = some (.int .i64 x396000_1) := (kc BK395.out 0).trans rfl
              have hfs96 := kf BK395.out 0
              have hns96_0 := NB394_395.out
              have hms96_0 := NB395_394.out
              have hs97 : w94.cell? ⟨gb395, 1, none⟩ = some (.int .i64 x396001_1) := (kc BK395.out 1).trans rfl
              have hfs97 := kf BK395.out 1
              have hns97_0 := NB394_395.out
              have hms97_0 := NB395_394.out
              refine skip_ (w1 := ?_) (by rfl) rfl ?_ ?_
              rotate_left
              ·go_simp
               rfl
              refine hK.out _ _ ?_
              clear hK K
              refine done_ (done_of HT_.out (by kernel_rfl)) ?_
              have hnb98 := NB395_394.out
              have hnc98 := NB394_395.out
              have hcz99_0 : w94.cell? ⟨gb395, 0, none⟩ = some (.int .i64 x396000_1) := (kc BK395.out 0).trans rfl
              have hcz99_1 : w94.cell? ⟨gb395, 1, none⟩ = some (.int .i64 x396001_1) := (kc BK395.out 1).trans rfl
              have hfz99_0 := kf BK395.out 0
              have hfz99_1 := kf BK395.out 1
              have hcz100_0 : w94.cell? ⟨gb394, 0, none⟩ = some (.int .i64 ((rd_T42 l0 0).f0)) := (kc BK394.out 0).trans rfl
              have hcz100_1 : w94.cell? ⟨gb394, 1, none⟩ = some (.int .i64 ((rd_T42 l0 0).f1)) := (kc BK394.out 1).trans rfl
              have hfz100_0 := kf BK394.out 0
              have hfz100_1 := kf BK394.out 1
              try go_wp2_with (first | ((with_reducible refine gate_dst (N := 68) rfl ?_); refine Kd.R_lit k42 _ 42 ?hg (N := 68) ?hd (xs := ([(⟨wrap64 (x396000_1 + ((rd_T42 y399 x6_1).f0)), wrap64 ((wrap64 (x396001_1 + ((rd_T42 y399 x6_1).f1))) - 1)⟩ : S42), (⟨wrap64 (x396000_1 + ((rd_T42 y399 x6_1).f0)), wrap64 (x396001_1 + ((rd_T42 y399 x6_1).f1))⟩ : S42), (⟨wrap64 ((wrap64 (x396000_1 + ((rd_T42 y399 x6_1).f0))) - 1), wrap64 (x396001_1 + ((rd_T42 y399 x6_1).f1))⟩ : S42), (⟨wrap64 ((wrap64 (x396000_1 + ((rd_T42 y399 x6_1).f0))) - 1), wrap64 ((wrap64 (x396001_1 + ((rd_T42 y399 x6_1).f1))) - 1)⟩ : S42)] : List (S42))) (inner := [.int .i64 (wrap64 (x396000_1 + ((rd_T42 y399 x6_1).f0))), .int .i64 (wrap64 ((wrap64 (x396001_1 + ((rd_T42 y399 x6_1).f1))) - 1)), .int .i64 (wrap64 (x396000_1 + ((rd_T42 y399 x6_1).f0))), .int .i64 (wrap64 (x396001_1 + ((rd_T42 y399 x6_1).f1))), .int .i64 (wrap64 ((wrap64 (x396000_1 + ((rd_T42 y399 x6_1).f0))) - 1)), .int .i64 (wrap64 (x396001_1 + ((rd_T42 y399 x6_1).f1))), .int .i64 (wrap64 ((wrap64 (x396000_1 + ((rd_T42 y399 x6_1).f0))) - 1)), .int .i64 (wrap64 ((wrap64 (x396001_1 + ((rd_T42 y399 x6_1).f1))) - 1))]) (ok := fun _ => True) (okp := fun _ => True) ?hr ?hp (fun _ hk => hk) trivial (Below.refl _ _) (Nat.le_refl _) (by simp) ?_; (case hd => rfl); (case hg => rfl); (case hr => first | (go_simp; done) | (go_simp; rfl)); (case hp => exact (Reps.c2 (show Kd.M k42 _ _ _ (⟨wrap64 (x396000_1 + ((rd_T42 y399 x6_1).f0)), wrap64 ((wrap64 (x396001_1 + ((rd_T42 y399 x6_1).f1))) - 1)⟩ : S42) [.int .i64 (wrap64 (x396000_1 + ((rd_T42 y399 x6_1).f0))), .int .i64 (wrap64 ((wrap64 (x396001_1 + ((rd_T42 y399 x6_1).f1))) - 1))] from (k42_mkM _ _ _ (⟨wrap64 (x396000_1 + ((rd_T42 y399 x6_1).f0)), wrap64 ((wrap64 (x396001_1 + ((rd_T42 y399 x6_1).f1))) - 1)⟩ : S42) )) (Reps.c2 (show Kd.M k42 _ _ _ (⟨wrap64 (x396000_1 + ((rd_T42 y399 x6_1).f0)), wrap64 (x396001_1 + ((rd_T42 y399 x6_1).f1))⟩ : S42) [.int .i64 (wrap64 (x396000_1 + ((rd_T42 y399 x6_1).f0))), .int .i64 (wrap64 (x396001_1 + ((rd_T42 y399 x6_1).f1)))] from (k42_mkM _ _ _ (⟨wrap64 (x396000_1 + ((rd_T42 y399 x6_1).f0)), wrap64 (x396001_1 + ((rd_T42 y399 x6_1).f1))⟩ : S42) )) (Reps.c2 (show Kd.M k42 _ _ _ (⟨wrap64 ((wrap64 (x396000_1 + ((rd_T42 y399 x6_1).f0))) - 1), wrap64 (x396001_1 + ((rd_T42 y399 x6_1).f1))⟩ : S42) [.int .i64 (wrap64 ((wrap64 (x396000_1 + ((rd_T42 y399 x6_1).f0))) - 1)), .int .i64 (wrap64 (x396001_1 + ((rd_T42 y399 x6_1).f1)))] from (k42_mkM _ _ _ (⟨wrap64 ((wrap64 (x396000_1 + ((rd_T42 y399 x6_1).f0))) - 1), wrap64 (x396001_1 + ((rd_T42 y399 x6_1).f1))⟩ : S42) )) (Reps.c2 (show Kd.M k42 _ _ _ (⟨wrap64 ((wrap64 (x396000_1 + ((rd_T42 y399 x6_1).f0))) - 1), wrap64 ((wrap64 (x396001_1 + ((rd_T42 y399 x6_1).f1))) - 1)⟩ : S42) [.int .i64 (wrap64 ((wrap64 (x396000_1 + ((rd_T42 y399 x6_1).f0))) - 1)), .int .i64 (wrap64 ((wrap64 (x396001_1 + ((rd_T42 y399 x6_1).f1))) - 1))] from (k42_mkM _ _ _ (⟨wrap64 ((wrap64 (x396000_1 + ((rd_T42 y399 x6_1).f0))) - 1), wrap64 ((wrap64 (x396001_1 + ((rd_T42 y399 x6_1).f1))) - 1)⟩ : S42) )) (Reps.none _ _)))))); intro v405 w101 ho102 hb hg_ hnew_; clear hg_ hnew_; (first | rw [← Ny404.out] at ho102 | (simp only [Int.reduceToNat] at ho102; rw [← Ny404.out] at ho102)); have n0_ := am (Kd.R_below (by (with_reducible repeat (first | apply Kd.R_alloc | apply Kd.R_drewN | apply Kd.R_drew)); exact (Kd.R_mono (Kd.R_far (p := ⟨gb395, 1, none⟩) (Kd.R_far (p := ⟨gb395, 0, none⟩) (Kd.R_types HO398.out BK395.out (by decide)) (fun _ hk => hk.2) (.int .i64 (wrap64 (x396000_1 + ((rd_T42 y399 x6_1).f0))))) (fun _ hk => hk.2) (.int .i64 (wrap64 (x396001_1 + ((rd_T42 y399 x6_1).f1))))) (fun _ h_ => h_.1))) hb); have n1_ := am (Kd.R_elder' (by (with_reducible repeat (first | apply Kd.R_alloc | apply Kd.R_drewN | apply Kd.R_drew)); exact (Kd.R_mono (Kd.R_far (p := ⟨gb395, 1, none⟩) (Kd.R_far (p := ⟨gb395, 0, none⟩) (Kd.R_mono HO401.out (fun k_ hk => (⟨hk, hk.2⟩ : _ ∧ k_ ≠ gb395))) (fun _ hk => hk.2) (.int .i64 (wrap64 (x396000_1 + ((rd_T42 y399 x6_1).f0))))) (fun _ hk => hk.2) (.int .i64 (wrap64 (x396001_1 + ((rd_T42 y399 x6_1).f1))))) (fun _ h_ => h_.1))) (Kd.R_base ho102) hb); have n2_ := am (Kd.R_lower (Kd.R_newB (Kd.R_newB (Kd.R_new' ho102 (Kd.R_lt (by (with_reducible repeat (first | apply Kd.R_alloc | apply Kd.R_drewN | apply Kd.R_drew)); exact (Kd.R_mono (Kd.R_far (p := ⟨gb395, 1, none⟩) (Kd.R_far (p := ⟨gb395, 0, none⟩) (Kd.R_mono HO401.out (fun k_ hk => (⟨hk, hk.2⟩ : _ ∧ k_ ≠ gb395))) (fun _ hk => hk.2) (.int .i64 (wrap64 (x396000_1 + ((rd_T42 y399 x6_1).f0))))) (fun _ hk => hk.2) (.int .i64 (wrap64 (x396001_1 + ((rd_T42 y399 x6_1).f1))))) (fun _ h_ => h_.1))))) (g := gb394) (o := .cells #[.int .i64 ((rd_T42 l0 0).f0), .int .i64 ((rd_T42 l0 0).f1)] 42 (0, 0)) (by (with_reducible repeat (first | refine k2 ?_ _ | refine k3 ?_ | refine k1 ?_ _)); refine blk_far ?_ NB394_395.out _; (with_reducible repeat (first | refine k2 ?_ _ | refine k3 ?_ | refine k1 ?_ _)); refine blk_far ?_ NB394_395.out _; (with_reducible repeat (first | refine k2 ?_ _ | refine k3 ?_ | refine k1 ?_ _)); exact BK394.out)) (g := gb395) (o := .cells #[.int .i64 (wrap64 (x396000_1 + ((rd_T42 y399 x6_1).f0))), .int .i64 (wrap64 (x396001_1 + ((rd_T42 y399 x6_1).f1)))] 42 (0, 0)) (by (with_reducible repeat (first | refine k2 ?_ _ | refine k3 ?_ | refine k1 ?_ _)); refine blk_put (cs := #[.int .i64 (wrap64 (x396000_1 + ((rd_T42 y399 x6_1).f0))), .int .i64 x396001_1]) ?_ 1 _ rfl; (with_reducible repeat (first | refine k2 ?_ _ | refine k3 ?_ | refine k1 ?_ _)); refine blk_put (cs := #[.int .i64 x396000_1, .int .i64 x396001_1]) ?_ 0 _ rfl; (with_reducible repeat (first | refine k2 ?_ _ | refine k3 ?_ | refine k1 ?_ _)); exact BK395.out)) (b5 (by repeat (first | (with_reducible first | exact HB.out | apply b1 | apply b2 | apply b3 | refine b4 ?_ GE394.out | refine b4 ?_ GE395.out) | exact HB.out)))); have n3_ := am (k4 (g := gb394) (o := .cells #[.int .i64 ((rd_T42 l0 0).f0), .int .i64 ((rd_T42 l0 0).f1)] 42 (0, 0)) (by (with_reducible repeat (first | refine k2 ?_ _ | refine k3 ?_ | refine k1 ?_ _)); refine blk_far ?_ NB394_395.out _; (with_reducible repeat (first | refine k2 ?_ _ | refine k3 ?_ | refine k1 ?_ _)); refine blk_far ?_ NB394_395.out _; (with_reducible repeat (first | refine k2 ?_ _ | refine k3 ?_ | refine k1 ?_ _)); exact BK394.out) hb); have n4_ := am (k4 (g := gb395) (o := .cells #[.int .i64 (wrap64 (x396000_1 + ((rd_T42 y399 x6_1).f0))), .int .i64 (wrap64 (x396001_1 + ((rd_T42 y399 x6_1).f1)))] 42 (0, 0)) (by (with_reducible repeat (first | refine k2 ?_ _ | refine k3 ?_ | refine k1 ?_ _)); refine blk_put (cs := #[.int .i64 (wrap64 (x396000_1 + ((rd_T42 y399 x6_1).f0))), .int .i64 x396001_1]) ?_ 1 _ rfl; (with_reducible repeat (first | refine k2 ?_ _ | refine k3 ?_ | refine k1 ?_ _)); refine blk_put (cs := #[.int .i64 x396000_1, .int .i64 x396001_1]) ?_ 0 _ rfl; (with_reducible repeat (first | refine k2 ?_ _ | refine k3 ?_ | refine k1 ?_ _)); exact BK395.out) hb); have n5_ := am (b6 (by repeat (first | (with_reducible first | exact HB.out | apply b1 | apply b2 | apply b3 | refine b4 ?_ GE394.out | refine b4 ?_ GE395.out) | exact HB.out)) hb); clear HO398; clear HO401; clear BK394; clear BK395; clear HB; have HO398 := n0_; have HO401 := n1_; have HO406 := n2_; have BK394 := n3_; have BK395 := n4_; have HB := n5_; clear n0_ n1_ n2_ n3_ n4_ n5_; clear hb ho102))
              have n0_ := am (Kd.R_drew HO398.out)
              have n1_ := am (Kd.R_drew HO401.out)
              have n2_ := am (Kd.R_drew HO406.out)
              have n3_ := am (k3 BK394.out)
              have n4_ := am (k3 BK395.out)
              have n5_ := am (b3 HB.out)
              clear HO398
              clear HO401
              clear HO406
              clear BK394
              clear BK395
              clear HB
              have HO398 := n0_
              have HO401 := n1_
              have HO406 := n2_
              have BK394 := n3_
              have BK395 := n4_
              have HB := n5_
              clear n0_ n1_ n2_ n3_ n4_ n5_
              obtain ⟨Ao104, co104, eo104⟩ := Kd.R_slice HO406.out
              (first | subst eo104 | (injection eo104 with f1_ f2_ f3_; have f4_ := f1_.symm; have f5_ := f3_.symm; clear f1_ f2_ f3_; subst f4_; subst f5_))
              have p407 : 0 ≤ (x6_1 : Int) := of_decide_eq_true (by first | (with_reducible assumption) | assumption)
              have q407 : x6_1 < (y404.length : Int) := of_decide_eq_true (by first | (with_reducible assumption) | assumption)
              obtain ⟨ad407, e407, hx407_0, hx407_1⟩ := at_T42 (Kd.R_reads' HO406.out).2.2 x6_1 p407 q407
              cases e407
              replace p407 := eq_true p407
              replace q407 := eq_true q407
              have p408 : 0 ≤ ((ji28) : Int) := of_decide_eq_true (by first | (with_reducible assumption) | assumption)
              have q408 : (ji28) < (y404.length : Int) := of_decide_eq_true (by first | (with_reducible assumption) | assumption)
              obtain ⟨ad408, e408, hx408_0, hx408_1⟩ := at_T42 (Kd.R_reads' HO406.out).2.2 (ji28) p408 q408
              obtain rfl : ad407 = ad408 := (by injection e408)
              replace p408 := eq_true p408
              replace q408 := eq_true q408
              refine start_ (n := 14) (S := fun w' => w'.cell? (ad407.add ((x6_1).toNat * 2)) = some (.int .i64 ((rd_T42 y404 x6_1).f0)) ∧ w'.cell? ⟨(ad407.add ((x6_1).toNat * 2)).block, (ad407.add ((x6_1).toNat * 2)).off + 1, none⟩ = some (.int .i64 ((rd_T42 y404 x6_1).f1)) ∧ w'.cell? (ad407.add (((ji28)).toNat * 2)) = some (.int .i64 ((rd_T42 y404 (ji28)).f0)) ∧ w'.cell? ⟨(ad407.add (((ji28)).toNat * 2)).block, (ad407.add (((ji28)).toNat * 2)).off + 1, none⟩ = some (.int .i64 ((rd_T42 y404 (ji28)).f1))) (ds := []) spec_l23Word.m1 (by kernel_rfl) rfl rfl ⟨hx407_0, hx407_1, hx408_0, hx408_1⟩ (fun hHeld => ?_); refine with_tabW spec_l23Word.tab11 spec_l23Word.bits11 (fun HT_ HW_ => ?_)
              generalize w101.drew = w103 at HO398 HO401 HO406 BK394 BK395 HB hx407_0 hx407_1 hx408_0 hx408_1 hHeld ⊢
              refine pure_ (i := 0) (N := some 69) (v := ?_) (a' := ?_) spec_l23Word.m3 rfl rfl (any_of HT_.out (by kernel_rfl)) (fun _ _ _ h => h) (Or.inl ⟨by rfl, ?_⟩) ?_ ?_
              rotate_left
              ·intro w'
               go_simp
               with_reducible rfl
              rotate_left
              ·simp only [Act.put, sa, i64_w, i32_w]
               rfl
              refine pure_ (i := 1) (N := some 70) (v := ?_) (a' := ?_) spec_l23Word.m13 rfl rfl (any_of HT_.out (by kernel_rfl)) (fun _ _ _ h => h) (Or.inl ⟨by rfl, ?_⟩) ?_ ?_
              rotate_left
              ·intro w'
               go_simp
               with_reducible rfl
              rotate_left
              ·simp only [Act.put, sa, i64_w, i32_w]
               rfl
              refine pure_ (i := 2) (N := some 71) (v := ?_) (a' := ?_) spec_l23Word.m14 rfl rfl (any_of HT_.out (by kernel_rfl)) (fun _ _ _ h => h) (Or.inl ⟨by rfl, ?_⟩) ?_ ?_
              rotate_left
              ·intro w'
               go_simp
               with_reducible rfl
              rotate_left
              ·simp only [Act.put, sa, i64_w, i32_w]
               rfl
              refine pure_ (i := 4) (N := some 73) (v := ?_) (a' := ?_) spec_l23Word.m15 rfl rfl (any_of HT_.out (by kernel_rfl)) (fun _ _ _ h => h) (Or.inl ⟨by rfl, ?_⟩) ?_ ?_
              rotate_left
              ·intro w'
               go_simp
               with_reducible rfl
              rotate_left
              ·simp only [Act.put, sa, i64_w, i32_w]
               rfl
              refine pure_ (i := 5) (N := some 74) (v := ?_) (a' := ?_) spec_l23Word.m16 rfl rfl (any_of HT_.out (by kernel_rfl)) (fun _ _ _ h => h) (Or.inl ⟨by rfl, ?_⟩) ?_ ?_
              rotate_left
              ·intro w'
               go_simp
               with_reducible rfl
              rotate_left
              ·simp only [Act.put, sa, i64_w, i32_w]
               rfl
              refine pure_ (i := 6) (N := some 75) (v := ?_) (a' := ?_) spec_l23Word.m17 rfl rfl (any_of HT_.out (by kernel_rfl)) (fun _ _ _ h => h) (Or.inl ⟨by rfl, ?_⟩) ?_ ?_
              rotate_left
              ·intro w'
               go_simp
               with_reducible rfl
              rotate_left
              ·simp only [Act.put, sa, i64_w, i32_w]
               rfl
              refine pure_ (i := 7) (N := some 76) (v := ?_) (a' := ?_) spec_l23Word.m18 rfl rfl (any_of HT_.out (by kernel_rfl)) (fun _ _ _ h => h) (Or.inl ⟨by rfl, ?_⟩) ?_ ?_
              rotate_left
              ·intro w'
               go_simp
               with_reducible rfl
              rotate_left
              ·simp only [Act.put, sa, i64_w, i32_w]
               rfl
              refine pure_ (i := 8) (N := some 77) (v := ?_) (a' := ?_) spec_l23Word.m19 rfl rfl (any_of HT_.out (by kernel_rfl)) (fun _ _ _ h => h) (Or.inl ⟨by rfl, ?_⟩) ?_ ?_
              rotate_left
              ·intro w'
               go_simp
               with_reducible rfl
              rotate_left
              ·simp only [Act.put, sa, i64_w, i32_w]
               rfl
              refine take_ (i := 3) (N := some 72) (v := ?_) (a' := ?_) spec_l23Word.m22 rfl rfl (take_ofW HT_.out HW_.out (by kernel_rfl)) (fun _ _ _ h => h) (Or.inl ⟨by rfl, ?_⟩) hHeld ?_ ?_
              rotate_left
              ·rintro w' ⟨s0, s1, s2, s3⟩
               go_simp
               with_reducible rfl
              rotate_left
              ·simp only [Act.put, sa, i64_w, i32_w]
               rfl
              refine take_ (i := 9) (N := some 78) (v := ?_) (a' := ?_) spec_l23Word.m24 rfl rfl (take_ofW HT_.out HW_.out (by kernel_rfl)) (fun _ _ _ h => h) (Or.inl ⟨by rfl, ?_⟩) hHeld ?_ ?_
              rotate_left
              ·rintro w' ⟨s0, s1, s2, s3⟩
               go_simp
               with_reducible rfl
              rotate_left
              ·simp only [Act.put, sa, i64_w, i32_w]
               rfl
              refine join_ (σ := Nat × Nat) 2 spec_l23Word.m27 (fun s_ => [(9, .pointer (some ⟨s_.1, 0, none⟩)), (10, .pointer (some ⟨s_.2, 0, none⟩))]) (fun s_ w' => (w'.cell? (ad407.add ((x6_1).toNat * 2)) = some (.int .i64 ((rd_T42 y404 x6_1).f0)) ∧ w'.cell? ⟨(ad407.add ((x6_1).toNat * 2)).block, (ad407.add ((x6_1).toNat * 2)).off + 1, none⟩ = some (.int .i64 ((rd_T42 y404 x6_1).f1)) ∧ w'.cell? (ad407.add (((ji28)).toNat * 2)) = some (.int .i64 ((rd_T42 y404 (ji28)).f0)) ∧ w'.cell? ⟨(ad407.add (((ji28)).toNat * 2)).block, (ad407.add (((ji28)).toNat * 2)).off + 1, none⟩ = some (.int .i64 ((rd_T42 y404 (ji28)).f1))) ∧ (Kd.R (Kd.int .u8) 5 w' w.heap.size (fun _ => True) v397 y396) ∧ (Kd.R k42 42 w' w.heap.size (fun k_ => some k_ ≠ (.slice (some ad407) y404.length co104 : Value).ownBlock ∧ k_ ≠ gb394 ∧ k_ ≠ gb395 ∧ k_ ≠ s_.1 ∧ k_ ≠ s_.2) (.slice (some ad402) y399.length co95) y399) ∧ (Kd.R k42 42 w' w.heap.size (fun k_ => some k_ ≠ (.slice (some ad402) y399.length co95 : Value).ownBlock ∧ k_ ≠ gb394 ∧ k_ ≠ gb395 ∧ k_ ≠ s_.1 ∧ k_ ≠ s_.2) (.slice (some ad407) y404.length co104) y404) ∧ (w'.heap[gb394]? = some (.cells #[.int .i64 ((rd_T42 l0 0).f0), .int .i64 ((rd_T42 l0 0).f1)] 42 (0, 0))) ∧ (w'.heap[gb395]? = some (.cells #[.int .i64 (wrap64 (x396000_1 + ((rd_T42 y399 x6_1).f0))), .int .i64 (wrap64 (x396001_1 + ((rd_T42 y399 x6_1).f1)))] 42 (0, 0))) ∧ (w'.heap[s_.1]? = some (.cells #[.int .i64 0, .int .i64 0] 42 (0, 0))) ∧ (w'.heap[s_.2]? = some (.cells #[.int .i64 0, .int .i64 0] 42 (0, 0))) ∧ (w.heap.size ≤ s_.1) ∧ (w.heap.size ≤ s_.1) ∧ (gb394 ≠ s_.1) ∧ (s_.1 ≠ gb394) ∧ (gb395 ≠ s_.1) ∧ (s_.1 ≠ gb395) ∧ (s_.2 ≠ s_.1) ∧ (s_.1 ≠ s_.2) ∧ (w.heap.size ≤ s_.2) ∧ (w.heap.size ≤ s_.2) ∧ (gb394 ≠ s_.2) ∧ (s_.2 ≠ gb394) ∧ (gb395 ≠ s_.2) ∧ (s_.2 ≠ gb395) ∧ (Below w.heap.size w w')) ?_ ?_
              rotate_left
              ·intro hCont
               refine two_ (i := 10) (j := 11) (Ni := some 9) (Nj := some 10) spec_l23Word.m26 spec_l23Word.m25 rfl rfl rfl rfl (two_of HT_.out (by kernel_rfl)) (by decide) (by decide) (fun K hK => ?_) (fun K hK => ?_)
               ·skip
                refine box_step ?hg (N := 9) ?hd (cs := #[.int .i64 0, .int .i64 0]) (t := 42) ?hr ?_; (case hd => rfl); (case hg => rfl); (case hr => first | (go_simp; done) | (go_simp; rfl))
                intro gb409 hg w105 hbox hb
                have HS0_ := (hb.cell (World.block_lt_of_cell? _ _ (hHeld.1))).trans (hHeld.1)
                have HS1_ := (hb.cell (World.block_lt_of_cell? _ _ (hHeld.2.1))).trans (hHeld.2.1)
                have HS2_ := (hb.cell (World.block_lt_of_cell? _ _ (hHeld.2.2.1))).trans (hHeld.2.2.1)
                have HS3_ := (hb.cell (World.block_lt_of_cell? _ _ (hHeld.2.2.2))).trans (hHeld.2.2.2)
                have n0_ := am (Kd.R_below (by (with_reducible repeat (first | apply Kd.R_alloc | apply Kd.R_drewN | apply Kd.R_drew)); exact HO398.out) hb)
                have n1_ := am (Kd.R_below (Kd.R_elderB (by (with_reducible repeat (first | apply Kd.R_alloc | apply Kd.R_drewN | apply Kd.R_drew)); exact HO401.out) gb409 (Nat.le_of_eq hg.symm)) hb)
                have n2_ := am (Kd.R_below (Kd.R_elderB (by (with_reducible repeat (first | apply Kd.R_alloc | apply Kd.R_drewN | apply Kd.R_drew)); exact HO406.out) gb409 (Nat.le_of_eq hg.symm)) hb)
                have n3_ := am (k4 (g := gb394) (o := .cells #[.int .i64 ((rd_T42 l0 0).f0), .int .i64 ((rd_T42 l0 0).f1)] 42 (0, 0)) (by (with_reducible repeat (first | refine k2 ?_ _ | refine k3 ?_ | refine k1 ?_ _)); exact BK394.out) hb)
                have n4_ := am (k4 (g := gb395) (o := .cells #[.int .i64 (wrap64 (x396000_1 + ((rd_T42 y399 x6_1).f0))), .int .i64 (wrap64 (x396001_1 + ((rd_T42 y399 x6_1).f1)))] 42 (0, 0)) (by (with_reducible repeat (first | refine k2 ?_ _ | refine k3 ?_ | refine k1 ?_ _)); exact BK395.out) hb)
                have n5_ := am (b6 (by repeat (first | (with_reducible first | exact HB.out | apply b1 | apply b2 | apply b3 | refine b4 ?_ GE394.out | refine b4 ?_ GE395.out) | exact HB.out)) hb)
                have n6_ := am (hbox)
                have n7_ := am ((by rw [hg]; exact (b5 (by repeat (first | (with_reducible first | exact HB.out | apply b1 | apply b2 | apply b3 | refine b4 ?_ GE394.out | refine b4 ?_ GE395.out) | exact HB.out))) : w.heap.size ≤ gb409))
                have n8_ := am ((by rw [hg]; exact (b5 (by repeat (first | (with_reducible first | exact HB.out | apply b1 | apply b2 | apply b3 | refine b4 ?_ GE394.out | refine b4 ?_ GE395.out) | exact HB.out))) : w.heap.size ≤ gb409))
                have n9_ := am ((by rw [hg]; exact nl (k5 (g := gb394) (o := .cells #[.int .i64 ((rd_T42 l0 0).f0), .int .i64 ((rd_T42 l0 0).f1)] 42 (0, 0)) (by (with_reducible repeat (first | refine k2 ?_ _ | refine k3 ?_ | refine k1 ?_ _)); exact BK394.out)) : gb394 ≠ gb409))
                have n10_ := am ((by rw [hg]; exact ng (k5 (g := gb394) (o := .cells #[.int .i64 ((rd_T42 l0 0).f0), .int .i64 ((rd_T42 l0 0).f1)] 42 (0, 0)) (by (with_reducible repeat (first | refine k2 ?_ _ | refine k3 ?_ | refine k1 ?_ _)); exact BK394.out)) : gb409 ≠ gb394))
                have n11_ := am ((by rw [hg]; exact nl (k5 (g := gb395) (o := .cells #[.int .i64 (wrap64 (x396000_1 + ((rd_T42 y399 x6_1).f0))), .int .i64 (wrap64 (x396001_1 + ((rd_T42 y399 x6_1).f1)))] 42 (0, 0)) (by (with_reducible repeat (first | refine k2 ?_ _ | refine k3 ?_ | refine k1 ?_ _)); exact BK395.out)) : gb395 ≠ gb409))
                have n12_ := am ((by rw [hg]; exact ng (k5 (g := gb395) (o := .cells #[.int .i64 (wrap64 (x396000_1 + ((rd_T42 y399 x6_1).f0))), .int .i64 (wrap64 (x396001_1 + ((rd_T42 y399 x6_1).f1)))] 42 (0, 0)) (by (with_reducible repeat (first | refine k2 ?_ _ | refine k3 ?_ | refine k1 ?_ _)); exact BK395.out)) : gb409 ≠ gb395))
                clear HO398
                clear HO401
                clear HO406
                clear BK394
                clear BK395
                clear HB
                have HO398 := n0_
                have HO401 := n1_
                have HO406 := n2_
                have BK394 := n3_
                have BK395 := n4_
                have HB := n5_
                have BK409 := n6_
                have GW409 := n7_
                have GE409 := n8_
                have NB394_409 := n9_
                have NB409_394 := n10_
                have NB395_409 := n11_
                have NB409_395 := n12_
                clear n0_ n1_ n2_ n3_ n4_ n5_ n6_ n7_ n8_ n9_ n10_ n11_ n12_
                clear hb hbox hg
                refine hK.out _ _ ⟨HS0_, HS1_, HS2_, HS3_⟩ (fun hHeld => ?_)
                clear hK K
                refine norm_ (a' := ?_) ?_ ?_
                rotate_left
                ·show Act.put _ (some 9) _ = _
                 simp only [Act.put, sa, i64_w, i32_w]
                 rfl
                refine one_ (i := 11) (N := some 10) spec_l23Word.m27 rfl rfl (one_of HT_.out (by kernel_rfl)) (by decide) (fun K hK => ?_)
                refine box_step ?hg (N := 10) ?hd (cs := #[.int .i64 0, .int .i64 0]) (t := 42) ?hr ?_; (case hd => rfl); (case hg => rfl); (case hr => first | (go_simp; done) | (go_simp; rfl))
                intro gb410 hg w106 hbox hb
                have HS0_ := (hb.cell (World.block_lt_of_cell? _ _ (hHeld.1))).trans (hHeld.1)
                have HS1_ := (hb.cell (World.block_lt_of_cell? _ _ (hHeld.2.1))).trans (hHeld.2.1)
                have HS2_ := (hb.cell (World.block_lt_of_cell? _ _ (hHeld.2.2.1))).trans (hHeld.2.2.1)
                have HS3_ := (hb.cell (World.block_lt_of_cell? _ _ (hHeld.2.2.2))).trans (hHeld.2.2.2)
                have n0_ := am (Kd.R_below (by (with_reducible repeat (first | apply Kd.R_alloc | apply Kd.R_drewN | apply Kd.R_drew)); exact HO398.out) hb)
                have n1_ := am (Kd.R_below (Kd.R_elderB (by (with_reducible repeat (first | apply Kd.R_alloc | apply Kd.R_drewN | apply Kd.R_drew)); exact HO401.out) gb410 (Nat.le_of_eq hg.symm)) hb)
                have n2_ := am (Kd.R_below (Kd.R_elderB (by (with_reducible repeat (first | apply Kd.R_alloc | apply Kd.R_drewN | apply Kd.R_drew)); exact HO406.out) gb410 (Nat.le_of_eq hg.symm)) hb)
                have n3_ := am (k4 (g := gb394) (o := .cells #[.int .i64 ((rd_T42 l0 0).f0), .int .i64 ((rd_T42 l0 0).f1)] 42 (0, 0)) (by (with_reducible repeat (first | refine k2 ?_ _ | refine k3 ?_ | refine k1 ?_ _)); exact BK394.out) hb)
                have n4_ := am (k4 (g := gb395) (o := .cells #[.int .i64 (wrap64 (x396000_1 + ((rd_T42 y399 x6_1).f0))), .int .i64 (wrap64 (x396001_1 + ((rd_T42 y399 x6_1).f1)))] 42 (0, 0)) (by (with_reducible repeat (first | refine k2 ?_ _ | refine k3 ?_ | refine k1 ?_ _)); exact BK395.out) hb)
                have n5_ := am (k4 (g := gb409) (o := .cells #[.int .i64 0, .int .i64 0] 42 (0, 0)) (by (with_reducible repeat (first | refine k2 ?_ _ | refine k3 ?_ | refine k1 ?_ _)); exact BK409.out) hb)
                have n6_ := am (b6 (by repeat (first | (with_reducible first | exact HB.out | apply b1 | apply b2 | apply b3 | refine b4 ?_ GE394.out | refine b4 ?_ GE395.out | refine b4 ?_ GE409.out) | exact HB.out)) hb)
                have n7_ := am (hbox)
                have n8_ := am ((by rw [hg]; exact (b5 (by repeat (first | (with_reducible first | exact HB.out | apply b1 | apply b2 | apply b3 | refine b4 ?_ GE394.out | refine b4 ?_ GE395.out | refine b4 ?_ GE409.out) | exact HB.out))) : w.heap.size ≤ gb410))
                have n9_ := am ((by rw [hg]; exact (b5 (by repeat (first | (with_reducible first | exact HB.out | apply b1 | apply b2 | apply b3 | refine b4 ?_ GE394.out | refine b4 ?_ GE395.out | refine b4 ?_ GE409.out) | exact HB.out))) : w.heap.size ≤ gb410))
                have n10_ := am ((by rw [hg]; exact nl (k5 (g := gb394) (o := .cells #[.int .i64 ((rd_T42 l0 0).f0), .int .i64 ((rd_T42 l0 0).f1)] 42 (0, 0)) (by (with_reducible repeat (first | refine k2 ?_ _ | refine k3 ?_ | refine k1 ?_ _)); exact BK394.out)) : gb394 ≠ gb410))
                have n11_ := am ((by rw [hg]; exact ng (k5 (g := gb394) (o := .cells #[.int .i64 ((rd_T42 l0 0).f0), .int .i64 ((rd_T42 l0 0).f1)] 42 (0, 0)) (by (with_reducible repeat (first | refine k2 ?_ _ | refine k3 ?_ | refine k1 ?_ _)); exact BK394.out)) : gb410 ≠ gb394))
                have n12_ := am ((by rw [hg]; exact nl (k5 (g := gb395) (o := .cells #[.int .i64 (wrap64 (x396000_1 + ((rd_T42 y399 x6_1).f0))), .int .i64 (wrap64 (x396001_1 + ((rd_T42 y399 x6_1).f1)))] 42 (0, 0)) (by (with_reducible repeat (first | refine k2 ?_ _ | refine k3 ?_ | refine k1 ?_ _)); exact BK395.out)) : gb395 ≠ gb410))
                have n13_ := am ((by rw [hg]; exact ng (k5 (g := gb395) (o := .cells #[.int .i64 (wrap64 (x396000_1 + ((rd_T42 y399 x6_1).f0))), .int .i64 (wrap64 (x396001_1 + ((rd_T42 y399 x6_1).f1)))] 42 (0, 0)) (by (with_reducible repeat (first | refine k2 ?_ _ | refine k3 ?_ | refine k1 ?_ _)); exact BK395.out)) : gb410 ≠ gb395))
                have n14_ := am ((by rw [hg]; exact nl (k5 (g := gb409) (o := .cells #[.int .i64 0, .int .i64 0] 42 (0, 0)) (by (with_reducible repeat (first | refine k2 ?_ _ | refine k3 ?_ | refine k1 ?_ _)); exact BK409.out)) : gb409 ≠ gb410))
                have n15_ := am ((by rw [hg]; exact ng (k5 (g := gb409) (o := .cells #[.int .i64 0, .int .i64 0] 42 (0, 0)) (by (with_reducible repeat (first | refine k2 ?_ _ | refine k3 ?_ | refine k1 ?_ _)); exact BK409.out)) : gb410 ≠ gb409))
                clear HO398
                clear HO401
                clear HO406
                clear BK394
                clear BK395
                clear BK409
                clear HB
                have HO398 := n0_
                have HO401 := n1_
                have HO406 := n2_
                have BK394 := n3_
                have BK395 := n4_
                have BK409 := n5_
                have HB := n6_
                have BK410 := n7_
                have GW410 := n8_
                have GE410 := n9_
                have NB394_410 := n10_
                have NB410_394 := n11_
                have NB395_410 := n12_
                have NB410_395 := n13_
                have NB409_410 := n14_
                have NB410_409 := n15_
                clear n0_ n1_ n2_ n3_ n4_ n5_ n6_ n7_ n8_ n9_ n10_ n11_ n12_ n13_ n14_ n15_
                clear hb hbox hg
                refine hK.out _ _ ⟨HS0_, HS1_, HS2_, HS3_⟩ (fun hHeld => ?_)
                clear hK K
                refine norm_ (a' := ?_) ?_ ?_
                rotate_left
                ·show Act.put _ (some 10) _ = _
                 simp only [Act.put, sa, i64_w, i32_w]
                 rfl
                exact norm_ (by simp only [putAll, Act.put, sa]) (hCont (gb409, gb410) _ ⟨hHeld, (by (with_reducible repeat (first | apply Kd.R_alloc | apply Kd.R_drewN | apply Kd.R_drew)); exact HO398.out), (by (with_reducible repeat (first | apply Kd.R_alloc | apply Kd.R_drewN | apply Kd.R_drew)); exact Kd.R_mono HO401.out (fun _ hk => ⟨hk.1.1.2, ⟨hk.1.1.1.1.2, ⟨hk.1.1.1.2, ⟨hk.1.2, hk.2⟩⟩⟩⟩)), (by (with_reducible repeat (first | apply Kd.R_alloc | apply Kd.R_drewN | apply Kd.R_drew)); exact Kd.R_mono HO406.out (fun _ hk => ⟨hk.1.1.1.1.2, ⟨hk.1.1.1.2, ⟨hk.1.1.2, ⟨hk.1.2, hk.2⟩⟩⟩⟩)), (by (with_reducible repeat (first | refine k2 ?_ _ | refine k3 ?_ | refine k1 ?_ _)); exact BK394.out), (by (with_reducible repeat (first | refine k2 ?_ _ | refine k3 ?_ | refine k1 ?_ _)); exact BK395.out), (by (with_reducible repeat (first | refine k2 ?_ _ | refine k3 ?_ | refine k1 ?_ _)); exact BK409.out), (by (with_reducible repeat (first | refine k2 ?_ _ | refine k3 ?_ | refine k1 ?_ _)); exact BK410.out), GW409.out, GE409.out, NB394_409.out, NB409_394.out, NB395_409.out, NB409_395.out, NB410_409.out, NB409_410.out, GW410.out, GE410.out, NB394_410.out, NB410_394.out, NB395_410.out, NB410_395.out, (by repeat (first | (with_reducible first | exact HB.out | apply b1 | apply b2 | apply b3 | refine b4 ?_ GE394.out | refine b4 ?_ GE395.out | refine b4 ?_ GE409.out | refine b4 ?_ GE410.out) | exact HB.out))⟩)
               ·skip
                refine box_step ?hg (N := 10) ?hd (cs := #[.int .i64 0, .int .i64 0]) (t := 42) ?hr ?_; (case hd => rfl); (case hg => rfl); (case hr => first | (go_simp; done) | (go_simp; rfl))
                intro gb410 hg w105 hbox hb
                have HS0_ := (hb.cell (World.block_lt_of_cell? _ _ (hHeld.1))).trans (hHeld.1)
                have HS1_ := (hb.cell (World.block_lt_of_cell? _ _ (hHeld.2.1))).trans (hHeld.2.1)
                have HS2_ := (hb.cell (World.block_lt_of_cell? _ _ (hHeld.2.2.1))).trans (hHeld.2.2.1)
                have HS3_ := (hb.cell (World.block_lt_of_cell? _ _ (hHeld.2.2.2))).trans (hHeld.2.2.2)
                have n0_ := am (Kd.R_below (by (with_reducible repeat (first | apply Kd.R_alloc | apply Kd.R_drewN | apply Kd.R_drew)); exact HO398.out) hb)
                have n1_ := am (Kd.R_below (Kd.R_elderB (by (with_reducible repeat (first | apply Kd.R_alloc | apply Kd.R_drewN | apply Kd.R_drew)); exact HO401.out) gb410 (Nat.le_of_eq hg.symm)) hb)
                have n2_ := am (Kd.R_below (Kd.R_elderB (by (with_reducible repeat (first | apply Kd.R_alloc | apply Kd.R_drewN | apply Kd.R_drew)); exact HO406.out) gb410 (Nat.le_of_eq hg.symm)) hb)
                have n3_ := am (k4 (g := gb394) (o := .cells #[.int .i64 ((rd_T42 l0 0).f0), .int .i64 ((rd_T42 l0 0).f1)] 42 (0, 0)) (by (with_reducible repeat (first | refine k2 ?_ _ | refine k3 ?_ | refine k1 ?_ _)); exact BK394.out) hb)
                have n4_ := am (k4 (g := gb395) (o := .cells #[.int .i64 (wrap64 (x396000_1 + ((rd_T42 y399 x6_1).f0))), .int .i64 (wrap64 (x396001_1 + ((rd_T42 y399 x6_1).f1)))] 42 (0, 0)) (by (with_reducible repeat (first | refine k2 ?_ _ | refine k3 ?_ | refine k1 ?_ _)); exact BK395.out) hb)
                have n5_ := am (b6 (by repeat (first | (with_reducible first | exact HB.out | apply b1 | apply b2 | apply b3 | refine b4 ?_ GE394.out | refine b4 ?_ GE395.out) | exact HB.out)) hb)
                have n6_ := am (hbox)
                have n7_ := am ((by rw [hg]; exact (b5 (by repeat (first | (with_reducible first | exact HB.out | apply b1 | apply b2 | apply b3 | refine b4 ?_ GE394.out | refine b4 ?_ GE395.out) | exact HB.out))) : w.heap.size ≤ gb410))
                have n8_ := am ((by rw [hg]; exact (b5 (by repeat (first | (with_reducible first | exact HB.out | apply b1 | apply b2 | apply b3 | refine b4 ?_ GE394.out | refine b4 ?_ GE395.out) | exact HB.out))) : w.heap.size ≤ gb410))
                have n9_ := am ((by rw [hg]; exact nl (k5 (g := gb394) (o := .cells #[.int .i64 ((rd_T42 l0 0).f0), .int .i64 ((rd_T42 l0 0).f1)] 42 (0, 0)) (by (with_reducible repeat (first | refine k2 ?_ _ | refine k3 ?_ | refine k1 ?_ _)); exact BK394.out)) : gb394 ≠ gb410))
                have n10_ := am ((by rw [hg]; exact ng (k5 (g := gb394) (o := .cells #[.int .i64 ((rd_T42 l0 0).f0), .int .i64 ((rd_T42 l0 0).f1)] 42 (0, 0)) (by (with_reducible repeat (first | refine k2 ?_ _ | refine k3 ?_ | refine k1 ?_ _)); exact BK394.out)) : gb410 ≠ gb394))
                have n11_ := am ((by rw [hg]; exact nl (k5 (g := gb395) (o := .cells #[.int .i64 (wrap64 (x396000_1 + ((rd_T42 y399 x6_1).f0))), .int .i64 (wrap64 (x396001_1 + ((rd_T42 y399 x6_1).f1)))] 42 (0, 0)) (by (with_reducible repeat (first | refine k2 ?_ _ | refine k3 ?_ | refine k1 ?_ _)); exact BK395.out)) : gb395 ≠ gb410))
                have n12_ := am ((by rw [hg]; exact ng (k5 (g := gb395) (o := .cells #[.int .i64 (wrap64 (x396000_1 + ((rd_T42 y399 x6_1).f0))), .int .i64 (wrap64 (x396001_1 + ((rd_T42 y399 x6_1).f1)))] 42 (0, 0)) (by (with_reducible repeat (first | refine k2 ?_ _ | refine k3 ?_ | refine k1 ?_ _)); exact BK395.out)) : gb410 ≠ gb395))
                clear HO398
                clear HO401
                clear HO406
                clear BK394
                clear BK395
                clear HB
                have HO398 := n0_
                have HO401 := n1_
                have HO406 := n2_
                have BK394 := n3_
                have BK395 := n4_
                have HB := n5_
                have BK410 := n6_
                have GW410 := n7_
                have GE410 := n8_
                have NB394_410 := n9_
                have NB410_394 := n10_
                have NB395_410 := n11_
                have NB410_395 := n12_
                clear n0_ n1_ n2_ n3_ n4_ n5_ n6_ n7_ n8_ n9_ n10_ n11_ n12_
                clear hb hbox hg
                refine hK.out _ _ ⟨HS0_, HS1_, HS2_, HS3_⟩ (fun hHeld => ?_)
                clear hK K
                refine norm_ (a' := ?_) ?_ ?_
                rotate_left
                ·show Act.put _ (some 10) _ = _
                 simp only [Act.put, sa, i64_w, i32_w]
                 rfl
                refine one_ (i := 10) (N := some 9) spec_l23Word.m27 rfl rfl (one_of HT_.out (by kernel_rfl)) (by decide) (fun K hK => ?_)
                refine box_step ?hg (N := 9) ?hd (cs := #[.int .i64 0, .int .i64 0]) (t := 42) ?hr ?_; (case hd => rfl); (case hg => rfl); (case hr => first | (go_simp; done) | (go_simp; rfl))
                intro gb409 hg w106 hbox hb
                have HS0_ := (hb.cell (World.block_lt_of_cell? _ _ (hHeld.1))).trans (hHeld.1)
                have HS1_ := (hb.cell (World.block_lt_of_cell? _ _ (hHeld.2.1))).trans (hHeld.2.1)
                have HS2_ := (hb.cell (World.block_lt_of_cell? _ _ (hHeld.2.2.1))).trans (hHeld.2.2.1)
                have HS3_ := (hb.cell (World.block_lt_of_cell? _ _ (hHeld.2.2.2))).trans (hHeld.2.2.2)
                have n0_ := am (Kd.R_below (by (with_reducible repeat (first | apply Kd.R_alloc | apply Kd.R_drewN | apply Kd.R_drew)); exact HO398.out) hb)
                have n1_ := am (Kd.R_below (Kd.R_elderB (by (with_reducible repeat (first | apply Kd.R_alloc | apply Kd.R_drewN | apply Kd.R_drew)); exact HO401.out) gb409 (Nat.le_of_eq hg.symm)) hb)
                have n2_ := am (Kd.R_below (Kd.R_elderB (by (with_reducible repeat (first | apply Kd.R_alloc | apply Kd.R_drewN | apply Kd.R_drew)); exact HO406.out) gb409 (Nat.le_of_eq hg.symm)) hb)
                have n3_ := am (k4 (g := gb394) (o := .cells #[.int .i64 ((rd_T42 l0 0).f0), .int .i64 ((rd_T42 l0 0).f1)] 42 (0, 0)) (by (with_reducible repeat (first | refine k2 ?_ _ | refine k3 ?_ | refine k1 ?_ _)); exact BK394.out) hb)
                have n4_ := am (k4 (g := gb395) (o := .cells #[.int .i64 (wrap64 (x396000_1 + ((rd_T42 y399 x6_1).f0))), .int .i64 (wrap64 (x396001_1 + ((rd_T42 y399 x6_1).f1)))] 42 (0, 0)) (by (with_reducible repeat (first | refine k2 ?_ _ | refine k3 ?_ | refine k1 ?_ _)); exact BK395.out) hb)
                have n5_ := am (k4 (g := gb410) (o := .cells #[.int .i64 0, .int .i64 0] 42 (0, 0)) (by (with_reducible repeat (first | refine k2 ?_ _ | refine k3 ?_ | refine k1 ?_ _)); exact BK410.out) hb)
                have n6_ := am (b6 (by repeat (first | (with_reducible first | exact HB.out | apply b1 | apply b2 | apply b3 | refine b4 ?_ GE394.out | refine b4 ?_ GE395.out | refine b4 ?_ GE410.out) | exact HB.out)) hb)
                have n7_ := am (hbox)
                have n8_ := am ((by rw [hg]; exact (b5 (by repeat (first | (with_reducible first | exact HB.out | apply b1 | apply b2 | apply b3 | refine b4 ?_ GE394.out | refine b4 ?_ GE395.out | refine b4 ?_ GE410.out) | exact HB.out))) : w.heap.size ≤ gb409))
                have n9_ := am ((by rw [hg]; exact (b5 (by repeat (first | (with_reducible first | exact HB.out | apply b1 | apply b2 | apply b3 | refine b4 ?_ GE394.out | refine b4 ?_ GE395.out | refine b4 ?_ GE410.out) | exact HB.out))) : w.heap.size ≤ gb409))
                have n10_ := am ((by rw [hg]; exact nl (k5 (g := gb394) (o := .cells #[.int .i64 ((rd_T42 l0 0).f0), .int .i64 ((rd_T42 l0 0).f1)] 42 (0, 0)) (by (with_reducible repeat (first | refine k2 ?_ _ | refine k3 ?_ | refine k1 ?_ _)); exact BK394.out)) : gb394 ≠ gb409))
                have n11_ := am ((by rw [hg]; exact ng (k5 (g := gb394) (o := .cells #[.int .i64 ((rd_T42 l0 0).f0), .int .i64 ((rd_T42 l0 0).f1)] 42 (0, 0)) (by (with_reducible repeat (first | refine k2 ?_ _ | refine k3 ?_ | refine k1 ?_ _)); exact BK394.out)) : gb409 ≠ gb394))
                have n12_ := am ((by rw [hg]; exact nl (k5 (g := gb395) (o := .cells #[.int .i64 (wrap64 (x396000_1 + ((rd_T42 y399 x6_1).f0))), .int .i64 (wrap64 (x396001_1 + ((rd_T42 y399 x6_1).f1)))] 42 (0, 0)) (by (with_reducible repeat (first | refine k2 ?_ _ | refine k3 ?_ | refine k1 ?_ _)); exact BK395.out)) : gb395 ≠ gb409))
                have n13_ := am ((by rw [hg]; exact ng (k5 (g := gb395) (o := .cells #[.int .i64 (wrap64 (x396000_1 + ((rd_T42 y399 x6_1).f0))), .int .i64 (wrap64 (x396001_1 + ((rd_T42 y399 x6_1).f1)))] 42 (0, 0)) (by (with_reducible repeat (first | refine k2 ?_ _ | refine k3 ?_ | refine k1 ?_ _)); exact BK395.out)) : gb409 ≠ gb395))
                have n14_ := am ((by rw [hg]; exact nl (k5 (g := gb410) (o := .cells #[.int .i64 0, .int .i64 0] 42 (0, 0)) (by (with_reducible repeat (first | refine k2 ?_ _ | refine k3 ?_ | refine k1 ?_ _)); exact BK410.out)) : gb410 ≠ gb409))
                have n15_ := am ((by rw [hg]; exact ng (k5 (g := gb410) (o := .cells #[.int .i64 0, .int .i64 0] 42 (0, 0)) (by (with_reducible repeat (first | refine k2 ?_ _ | refine k3 ?_ | refine k1 ?_ _)); exact BK410.out)) : gb409 ≠ gb410))
                clear HO398
                clear HO401
                clear HO406
                clear BK394
                clear BK395
                clear BK410
                clear HB
                have HO398 := n0_
                have HO401 := n1_
                have HO406 := n2_
                have BK394 := n3_
                have BK395 := n4_
                have BK410 := n5_
                have HB := n6_
                have BK409 := n7_
                have GW409 := n8_
                have GE409 := n9_
                have NB394_409 := n10_
                have NB409_394 := n11_
                have NB395_409 := n12_
                have NB409_395 := n13_
                have NB410_409 := n14_
                have NB409_410 := n15_
                clear n0_ n1_ n2_ n3_ n4_ n5_ n6_ n7_ n8_ n9_ n10_ n11_ n12_ n13_ n14_ n15_
                clear hb hbox hg
                refine hK.out _ _ ⟨HS0_, HS1_, HS2_, HS3_⟩ (fun hHeld => ?_)
                clear hK K
                refine norm_ (a' := ?_) ?_ ?_
                rotate_left
                ·show Act.put _ (some 9) _ = _
                 simp only [Act.put, sa, i64_w, i32_w]
                 rfl
                exact norm_ (by simp only [putAll, Act.put, sa]) (hCont (gb409, gb410) _ ⟨hHeld, (by (with_reducible repeat (first | apply Kd.R_alloc | apply Kd.R_drewN | apply Kd.R_drew)); exact HO398.out), (by (with_reducible repeat (first | apply Kd.R_alloc | apply Kd.R_drewN | apply Kd.R_drew)); exact Kd.R_mono HO401.out (fun _ hk => ⟨hk.1.1.2, ⟨hk.1.1.1.1.2, ⟨hk.1.1.1.2, ⟨hk.2, hk.1.2⟩⟩⟩⟩)), (by (with_reducible repeat (first | apply Kd.R_alloc | apply Kd.R_drewN | apply Kd.R_drew)); exact Kd.R_mono HO406.out (fun _ hk => ⟨hk.1.1.1.1.2, ⟨hk.1.1.1.2, ⟨hk.1.1.2, ⟨hk.2, hk.1.2⟩⟩⟩⟩)), (by (with_reducible repeat (first | refine k2 ?_ _ | refine k3 ?_ | refine k1 ?_ _)); exact BK394.out), (by (with_reducible repeat (first | refine k2 ?_ _ | refine k3 ?_ | refine k1 ?_ _)); exact BK395.out), (by (with_reducible repeat (first | refine k2 ?_ _ | refine k3 ?_ | refine k1 ?_ _)); exact BK409.out), (by (with_reducible repeat (first | refine k2 ?_ _ | refine k3 ?_ | refine k1 ?_ _)); exact BK410.out), GW409.out, GE409.out, NB394_409.out, NB409_394.out, NB395_409.out, NB409_395.out, NB410_409.out, NB409_410.out, GW410.out, GE410.out, NB394_410.out, NB410_394.out, NB395_410.out, NB410_395.out, (by repeat (first | (with_reducible first | exact HB.out | apply b1 | apply b2 | apply b3 | refine b4 ?_ GE394.out | refine b4 ?_ GE395.out | refine b4 ?_ GE410.out | refine b4 ?_ GE409.out) | exact HB.out))⟩)
              rintro ⟨gb409, gb410⟩ w107 ⟨hS_, h0_, h1_, h2_, h3_, h4_, h5_, h6_, h7_, h8_, h9_, h10_, h11_, h12_, h13_, h14_, h15_, h16_, h17_, h18_, h19_, h20_, h21_⟩
              have n0_ : Aside0 (Kd.R (Kd.int .u8) 5 w107 w.heap.size (fun _ => True) v397 y396) := ⟨h0_⟩
              have n1_ : Aside0 (Kd.R k42 42 w107 w.heap.size (fun k_ => some k_ ≠ (.slice (some ad407) y404.length co104 : Value).ownBlock ∧ k_ ≠ gb394 ∧ k_ ≠ gb395 ∧ k_ ≠ gb409 ∧ k_ ≠ gb410) (.slice (some ad402) y399.length co95) y399) := ⟨h1_⟩
              have n2_ : Aside0 (Kd.R k42 42 w107 w.heap.size (fun k_ => some k_ ≠ (.slice (some ad402) y399.length co95 : Value).ownBlock ∧ k_ ≠ gb394 ∧ k_ ≠ gb395 ∧ k_ ≠ gb409 ∧ k_ ≠ gb410) (.slice (some ad407) y404.length co104) y404) := ⟨h2_⟩
              have n3_ : Aside0 (w107.heap[gb394]? = some (.cells #[.int .i64 ((rd_T42 l0 0).f0), .int .i64 ((rd_T42 l0 0).f1)] 42 (0, 0))) := ⟨h3_⟩
              have n4_ : Aside0 (w107.heap[gb395]? = some (.cells #[.int .i64 (wrap64 (x396000_1 + ((rd_T42 y399 x6_1).f0))), .int .i64 (wrap64 (x396001_1 + ((rd_T42 y399 x6_1).f1)))] 42 (0, 0))) := ⟨h4_⟩
              have n5_ : Aside0 (w107.heap[gb409]? = some (.cells #[.int .i64 0, .int .i64 0] 42 (0, 0))) := ⟨h5_⟩
              have n6_ : Aside0 (w107.heap[gb410]? = some (.cells #[.int .i64 0, .int .i64 0] 42 (0, 0))) := ⟨h6_⟩
              have n7_ : Aside0 (w.heap.size ≤ gb409) := ⟨h7_⟩
              have n8_ : Aside0 (w.heap.size ≤ gb409) := ⟨h8_⟩
              have n9_ : Aside0 (gb394 ≠ gb409) := ⟨h9_⟩
              have n10_ : Aside0 (gb409 ≠ gb394) := ⟨h10_⟩
              have n11_ : Aside0 (gb395 ≠ gb409) := ⟨h11_⟩
              have n12_ : Aside0 (gb409 ≠ gb395) := ⟨h12_⟩
              have n13_ : Aside0 (gb410 ≠ gb409) := ⟨h13_⟩
              have n14_ : Aside0 (gb409 ≠ gb410) := ⟨h14_⟩
              have n15_ : Aside0 (w.heap.size ≤ gb410) := ⟨h15_⟩
              have n16_ : Aside0 (w.heap.size ≤ gb410) := ⟨h16_⟩
              have n17_ : Aside0 (gb394 ≠ gb410) := ⟨h17_⟩
              have n18_ : Aside0 (gb410 ≠ gb394) := ⟨h18_⟩
              have n19_ : Aside0 (gb395 ≠ gb410) := ⟨h19_⟩
              have n20_ : Aside0 (gb410 ≠ gb395) := ⟨h20_⟩
              have n21_ : Aside0 (Below w.heap.size w w107) := ⟨h21_⟩
              clear HO398
              clear HO401
              clear HO406
              clear BK394
              clear BK395
              clear HB
              clear h0_ h1_ h2_ h3_ h4_ h5_ h6_ h7_ h8_ h9_ h10_ h11_ h12_ h13_ h14_ h15_ h16_ h17_ h18_ h19_ h20_ h21_
              have HO398 := n0_
              have HO401 := n1_
              have HO406 := n2_
              have BK394 := n3_
              have BK395 := n4_
              have BK409 := n5_
              have BK410 := n6_
              have GW409 := n7_
              have GE409 := n8_
              have NB394_409 := n9_
              have NB409_394 := n10_
              have NB395_409 := n11_
              have NB409_395 := n12_
              have NB410_409 := n13_
              have NB409_410 := n14_
              have GW410 := n15_
              have GE410 := n16_
              have NB394_410 := n17_
              have NB410_394 := n18_
              have NB395_410 := n19_
              have NB410_395 := n20_
              have HB := n21_
              clear n0_ n1_ n2_ n3_ n4_ n5_ n6_ n7_ n8_ n9_ n10_ n11_ n12_ n13_ n14_ n15_ n16_ n17_ n18_ n19_ n20_ n21_
              have hHeld : w107.cell? (ad407.add ((x6_1).toNat * 2)) = some (.int .i64 ((rd_T42 y404 x6_1).f0)) ∧ w107.cell? ⟨(ad407.add ((x6_1).toNat * 2)).block, (ad407.add ((x6_1).toNat * 2)).off + 1, none⟩ = some (.int .i64 ((rd_T42 y404 x6_1).f1)) ∧ w107.cell? (ad407.add (((ji28)).toNat * 2)) = some (.int .i64 ((rd_T42 y404 (ji28)).f0)) ∧ w107.cell? ⟨(ad407.add (((ji28)).toNat * 2)).block, (ad407.add (((ji28)).toNat * 2)).off + 1, none⟩ = some (.int .i64 ((rd_T42 y404 (ji28)).f1)) := hS_
              refine norm_ (a' := ?_) ?_ ?_
              rotate_left
              ·simp only [putAll, Act.put, sa]
               rfl
              refine one_ (i := 12) (N := none) spec_l23Word.m28 rfl rfl (one_of HT_.out (by kernel_rfl)) (by decide) (fun K hK => ?_)
              have hs108 : w107.cell? ⟨gb409, 0, none⟩ = some (.int .i64 0) := (kc BK409.out 0).trans rfl
              have hfs108 := kf BK409.out 0
              have hns108_0 := NB394_409.out
              have hns108_1 := NB395_409.out
              have hns108_3 := NB410_409.out
              have hms108_0 := NB409_394.out
              have hms108_1 := NB409_395.out
              have hms108_3 := NB409_410.out
              have hs109 : w107.cell? ⟨gb409, 1, none⟩ = some (.int .i64 0) := (kc BK409.out 1).trans rfl
              have hfs109 := kf BK409.out 1
              have hns109_0 := NB394_409.out
              have hns109_1 := NB395_409.out
              have hns109_3 := NB410_409.out
              have hms109_0 := NB409_394.out
              have hms109_1 := NB409_395.out
              have hms109_3 := NB409_410.out
              refine skip_ (w1 := ?_) (by rfl) rfl ?_ ?_
              rotate_left
              ·go_simp
               rfl
              refine hK.out _ _ ⟨((cell_far (p := ⟨gb409, _, none⟩) (by first | exact Kd.own_blk (Kd.R_away HO406.out (fun _ hk => hk.2.2.2.1)) | (rw [add_block]; exact Kd.own_blk (Kd.R_away HO406.out (fun _ hk => hk.2.2.2.1))) | (show (Addr.add _ _).block ≠ _; rw [add_block]; exact Kd.own_blk (Kd.R_away HO406.out (fun _ hk => hk.2.2.2.1))) | (dsimp only; exact Kd.own_blk (Kd.R_away HO406.out (fun _ hk => hk.2.2.2.1)))) _).trans (((cell_far (p := ⟨gb409, _, none⟩) (by first | exact Kd.own_blk (Kd.R_away HO406.out (fun _ hk => hk.2.2.2.1)) | (rw [add_block]; exact Kd.own_blk (Kd.R_away HO406.out (fun _ hk => hk.2.2.2.1))) | (show (Addr.add _ _).block ≠ _; rw [add_block]; exact Kd.own_blk (Kd.R_away HO406.out (fun _ hk => hk.2.2.2.1))) | (dsimp only; exact Kd.own_blk (Kd.R_away HO406.out (fun _ hk => hk.2.2.2.1)))) _).trans (hHeld.1)))), ((cell_far (p := ⟨gb409, _, none⟩) (by first | exact Kd.own_blk (Kd.R_away HO406.out (fun _ hk => hk.2.2.2.1)) | (rw [add_block]; exact Kd.own_blk (Kd.R_away HO406.out (fun _ hk => hk.2.2.2.1))) | (show (Addr.add _ _).block ≠ _; rw [add_block]; exact Kd.own_blk (Kd.R_away HO406.out (fun _ hk => hk.2.2.2.1))) | (dsimp only; exact Kd.own_blk (Kd.R_away HO406.out (fun _ hk => hk.2.2.2.1)))) _).trans (((cell_far (p := ⟨gb409, _, none⟩) (by first | exact Kd.own_blk (Kd.R_away HO406.out (fun _ hk => hk.2.2.2.1)) | (rw [add_block]; exact Kd.own_blk (Kd.R_away HO406.out (fun _ hk => hk.2.2.2.1))) | (show (Addr.add _ _).block ≠ _; rw [add_block]; exact Kd.own_blk (Kd.R_away HO406.out (fun _ hk => hk.2.2.2.1))) | (dsimp only; exact Kd.own_blk (Kd.R_away HO406.out (fun _ hk => hk.2.2.2.1)))) _).trans (hHeld.2.1)))), ((cell_far (p := ⟨gb409, _, none⟩) (by first | exact Kd.own_blk (Kd.R_away HO406.out (fun _ hk => hk.2.2.2.1)) | (rw [add_block]; exact Kd.own_blk (Kd.R_away HO406.out (fun _ hk => hk.2.2.2.1))) | (show (Addr.add _ _).block ≠ _; rw [add_block]; exact Kd.own_blk (Kd.R_away HO406.out (fun _ hk => hk.2.2.2.1))) | (dsimp only; exact Kd.own_blk (Kd.R_away HO406.out (fun _ hk => hk.2.2.2.1)))) _).trans (((cell_far (p := ⟨gb409, _, none⟩) (by first | exact Kd.own_blk (Kd.R_away HO406.out (fun _ hk => hk.2.2.2.1)) | (rw [add_block]; exact Kd.own_blk (Kd.R_away HO406.out (fun _ hk => hk.2.2.2.1))) | (show (Addr.add _ _).block ≠ _; rw [add_block]; exact Kd.own_blk (Kd.R_away HO406.out (fun _ hk => hk.2.2.2.1))) | (dsimp only; exact Kd.own_blk (Kd.R_away HO406.out (fun _ hk => hk.2.2.2.1)))) _).trans (hHeld.2.2.1)))), ((cell_far (p := ⟨gb409, _, none⟩) (by first | exact Kd.own_blk (Kd.R_away HO406.out (fun _ hk => hk.2.2.2.1)) | (rw [add_block]; exact Kd.own_blk (Kd.R_away HO406.out (fun _ hk => hk.2.2.2.1))) | (show (Addr.add _ _).block ≠ _; rw [add_block]; exact Kd.own_blk (Kd.R_away HO406.out (fun _ hk => hk.2.2.2.1))) | (dsimp only; exact Kd.own_blk (Kd.R_away HO406.out (fun _ hk => hk.2.2.2.1)))) _).trans (((cell_far (p := ⟨gb409, _, none⟩) (by first | exact Kd.own_blk (Kd.R_away HO406.out (fun _ hk => hk.2.2.2.1)) | (rw [add_block]; exact Kd.own_blk (Kd.R_away HO406.out (fun _ hk => hk.2.2.2.1))) | (show (Addr.add _ _).block ≠ _; rw [add_block]; exact Kd.own_blk (Kd.R_away HO406.out (fun _ hk => hk.2.2.2.1))) | (dsimp only; exact Kd.own_blk (Kd.R_away HO406.out (fun _ hk => hk.2.2.2.1)))) _).trans (hHeld.2.2.2))))⟩ (fun hHeld => ?_)
              clear hK K
              refine one_ (i := 13) (N := none) spec_l23Word.m34 rfl rfl (one_of HT_.out (by kernel_rfl)) (by decide) (fun K hK => ?_)
              have hs110 : w107.cell? ⟨gb410, 0, none⟩ = some (.int .i64 0) := (kc BK410.out 0).trans rfl
              have hfs110 := kf BK410.out 0
              have hns110_0 := NB394_410.out
              have hns110_1 := NB395_410.out
              have hns110_2 := NB409_410.out
              have hms110_0 := NB410_394.out
              have hms110_1 := NB410_395.out
              have hms110_2 := NB410_409.out
              have hs111 : w107.cell? ⟨gb410, 1, none⟩ = some (.int .i64 0) := (kc BK410.out 1).trans rfl
              have hfs111 := kf BK410.out 1
              have hns111_0 := NB394_410.out
              have hns111_1 := NB395_410.out
              have hns111_2 := NB409_410.out
              have hms111_0 := NB410_394.out
              have hms111_1 := NB410_395.out
              have hms111_2 := NB410_409.out
              refine skip_ (w1 := ?_) (by rfl) rfl ?_ ?_
              rotate_left
              ·go_simp
               rfl
              refine hK.out _ _ ⟨((cell_far (p := ⟨gb410, _, none⟩) (by first | exact Kd.own_blk (Kd.R_away HO406.out (fun _ hk => hk.2.2.2.2)) | (rw [add_block]; exact Kd.own_blk (Kd.R_away HO406.out (fun _ hk => hk.2.2.2.2))) | (show (Addr.add _ _).block ≠ _; rw [add_block]; exact Kd.own_blk (Kd.R_away HO406.out (fun _ hk => hk.2.2.2.2))) | (dsimp only; exact Kd.own_blk (Kd.R_away HO406.out (fun _ hk => hk.2.2.2.2)))) _).trans (((cell_far (p := ⟨gb410, _, none⟩) (by first | exact Kd.own_blk (Kd.R_away HO406.out (fun _ hk => hk.2.2.2.2)) | (rw [add_block]; exact Kd.own_blk (Kd.R_away HO406.out (fun _ hk => hk.2.2.2.2))) | (show (Addr.add _ _).block ≠ _; rw [add_block]; exact Kd.own_blk (Kd.R_away HO406.out (fun _ hk => hk.2.2.2.2))) | (dsimp only; exact Kd.own_blk (Kd.R_away HO406.out (fun _ hk => hk.2.2.2.2)))) _).trans (hHeld.1)))), ((cell_far (p := ⟨gb410, _, none⟩) (by first | exact Kd.own_blk (Kd.R_away HO406.out (fun _ hk => hk.2.2.2.2)) | (rw [add_block]; exact Kd.own_blk (Kd.R_away HO406.out (fun _ hk => hk.2.2.2.2))) | (show (Addr.add _ _).block ≠ _; rw [add_block]; exact Kd.own_blk (Kd.R_away HO406.out (fun _ hk => hk.2.2.2.2))) | (dsimp only; exact Kd.own_blk (Kd.R_away HO406.out (fun _ hk => hk.2.2.2.2)))) _).trans (((cell_far (p := ⟨gb410, _, none⟩) (by first | exact Kd.own_blk (Kd.R_away HO406.out (fun _ hk => hk.2.2.2.2)) | (rw [add_block]; exact Kd.own_blk (Kd.R_away HO406.out (fun _ hk => hk.2.2.2.2))) | (show (Addr.add _ _).block ≠ _; rw [add_block]; exact Kd.own_blk (Kd.R_away HO406.out (fun _ hk => hk.2.2.2.2))) | (dsimp only; exact Kd.own_blk (Kd.R_away HO406.out (fun _ hk => hk.2.2.2.2)))) _).trans (hHeld.2.1)))), ((cell_far (p := ⟨gb410, _, none⟩) (by first | exact Kd.own_blk (Kd.R_away HO406.out (fun _ hk => hk.2.2.2.2)) | (rw [add_block]; exact Kd.own_blk (Kd.R_away HO406.out (fun _ hk => hk.2.2.2.2))) | (show (Addr.add _ _).block ≠ _; rw [add_block]; exact Kd.own_blk (Kd.R_away HO406.out (fun _ hk => hk.2.2.2.2))) | (dsimp only; exact Kd.own_blk (Kd.R_away HO406.out (fun _ hk => hk.2.2.2.2)))) _).trans (((cell_far (p := ⟨gb410, _, none⟩) (by first | exact Kd.own_blk (Kd.R_away HO406.out (fun _ hk => hk.2.2.2.2)) | (rw [add_block]; exact Kd.own_blk (Kd.R_away HO406.out (fun _ hk => hk.2.2.2.2))) | (show (Addr.add _ _).block ≠ _; rw [add_block]; exact Kd.own_blk (Kd.R_away HO406.out (fun _ hk => hk.2.2.2.2))) | (dsimp only; exact Kd.own_blk (Kd.R_away HO406.out (fun _ hk => hk.2.2.2.2)))) _).trans (hHeld.2.2.1)))), ((cell_far (p := ⟨gb410, _, none⟩) (by first | exact Kd.own_blk (Kd.R_away HO406.out (fun _ hk => hk.2.2.2.2)) | (rw [add_block]; exact Kd.own_blk (Kd.R_away HO406.out (fun _ hk => hk.2.2.2.2))) | (show (Addr.add _ _).block ≠ _; rw [add_block]; exact Kd.own_blk (Kd.R_away HO406.out (fun _ hk => hk.2.2.2.2))) | (dsimp only; exact Kd.own_blk (Kd.R_away HO406.out (fun _ hk => hk.2.2.2.2)))) _).trans (((cell_far (p := ⟨gb410, _, none⟩) (by first | exact Kd.own_blk (Kd.R_away HO406.out (fun _ hk => hk.2.2.2.2)) | (rw [add_block]; exact Kd.own_blk (Kd.R_away HO406.out (fun _ hk => hk.2.2.2.2))) | (show (Addr.add _ _).block ≠ _; rw [add_block]; exact Kd.own_blk (Kd.R_away HO406.out (fun _ hk => hk.2.2.2.2))) | (dsimp only; exact Kd.own_blk (Kd.R_away HO406.out (fun _ hk => hk.2.2.2.2)))) _).trans (hHeld.2.2.2))))⟩ (fun hHeld => ?_)
              clear hK K
              refine done_ (done_of HT_.out (by kernel_rfl)) ?_
              have hnb112 := NB409_394.out
              have hnc112 := NB394_409.out
              have hnb113 := NB409_395.out
              have hnc113 := NB395_409.out
              have hnb114 := NB409_410.out
              have hnc114 := NB410_409.out
              have hcz115_0 : w107.cell? ⟨gb409, 0, none⟩ = some (.int .i64 0) := (kc BK409.out 0).trans rfl
              have hcz115_1 : w107.cell? ⟨gb409, 1, none⟩ = some (.int .i64 0) := (kc BK409.out 1).trans rfl
              have hfz115_0 := kf BK409.out 0
              have hfz115_1 := kf BK409.out 1
              try go_wp2_with (first | ((with_reducible refine gate_callee (f := 70) rfl ?_); refine goesL_ (some 82) rfl rfl Tryd.func70 (by kernel_rfl) rfl #[.slice (some ad393) l0.length c0, .agg #[.int .i64 ((rd_T42 y404 x6_1).f0), .int .i64 ((rd_T42 y404 x6_1).f1)]] rfl (by (try simp only [List.map_toArray, List.map_cons, List.map_nil]); first | done | rfl | (simp only [List.length_drop, List.length_take]; rfl)) ?_; (with_reducible refine (spec_l02Index.calls k1 _ _ l0 ((rd_T42 y404 x6_1).f0) ((rd_T42 y404 x6_1).f1) t411 _ ?side1 ?side2 A31.out).mono ?_); (case side1 => exact Kd.C_below HR0.out (by repeat (first | (with_reducible first | exact HB.out | apply b1 | apply b2 | apply b3 | refine b4 ?_ GE394.out | refine b4 ?_ GE395.out | refine b4 ?_ GE409.out | refine b4 ?_ GE410.out) | exact HB.out))); (case side2 => exact HC0.out); rintro e w116 ⟨rfl, hb⟩; refine ⟨_, rfl, ?_⟩; have n0_ := am (Kd.R_below (by (with_reducible repeat (first | apply Kd.R_alloc | apply Kd.R_drewN | apply Kd.R_drew)); exact (Kd.R_mono (Kd.R_mono (Kd.R_far (p := ⟨gb410, 1, none⟩) (Kd.R_far (p := ⟨gb410, 0, none⟩) (Kd.R_far (p := ⟨gb409, 1, none⟩) (Kd.R_far (p := ⟨gb409, 0, none⟩) (Kd.R_types (Kd.R_types HO398.out BK409.out (by decide)) BK410.out (by decide)) (fun _ hk => hk.1.2) (.int .i64 ((rd_T42 y404 x6_1).f0))) (fun _ hk => hk.1.2) (.int .i64 ((rd_T42 y404 x6_1).f1))) (fun _ hk => hk.2) (.int .i64 ((rd_T42 y404 (ji28)).f0))) (fun _ hk => hk.2) (.int .i64 ((rd_T42 y404 (ji28)).f1))) (fun _ h_ => h_.1)) (fun _ h_ => h_.1))) hb); have n1_ := am (Kd.R_below (by (with_reducible repeat (first | apply Kd.R_alloc | apply Kd.R_drewN | apply Kd.R_drew)); exact (Kd.R_mono (Kd.R_mono (Kd.R_far (p := ⟨gb410, 1, none⟩) (Kd.R_far (p := ⟨gb410, 0, none⟩) (Kd.R_far (p := ⟨gb409, 1, none⟩) (Kd.R_far (p := ⟨gb409, 0, none⟩) (Kd.R_mono (Kd.R_mono HO401.out (fun k_ hk => (⟨hk, hk.2.2.2.1⟩ : _ ∧ k_ ≠ gb409))) (fun k_ hk => (⟨hk, hk.1.2.2.2.2⟩ : _ ∧ k_ ≠ gb410))) (fun _ hk => hk.1.2) (.int .i64 ((rd_T42 y404 x6_1).f0))) (fun _ hk => hk.1.2) (.int .i64 ((rd_T42 y404 x6_1).f1))) (fun _ hk => hk.2) (.int .i64 ((rd_T42 y404 (ji28)).f0))) (fun _ hk => hk.2) (.int .i64 ((rd_T42 y404 (ji28)).f1))) (fun _ h_ => h_.1)) (fun _ h_ => h_.1))) hb); have n2_ := am (Kd.R_below (by (with_reducible repeat (first | apply Kd.R_alloc | apply Kd.R_drewN | apply Kd.R_drew)); exact (Kd.R_mono (Kd.R_mono (Kd.R_far (p := ⟨gb410, 1, none⟩) (Kd.R_far (p := ⟨gb410, 0, none⟩) (Kd.R_far (p := ⟨gb409, 1, none⟩) (Kd.R_far (p := ⟨gb409, 0, none⟩) (Kd.R_mono (Kd.R_mono HO406.out (fun k_ hk => (⟨hk, hk.2.2.2.1⟩ : _ ∧ k_ ≠ gb409))) (fun k_ hk => (⟨hk, hk.1.2.2.2.2⟩ : _ ∧ k_ ≠ gb410))) (fun _ hk => hk.1.2) (.int .i64 ((rd_T42 y404 x6_1).f0))) (fun _ hk => hk.1.2) (.int .i64 ((rd_T42 y404 x6_1).f1))) (fun _ hk => hk.2) (.int .i64 ((rd_T42 y404 (ji28)).f0))) (fun _ hk => hk.2) (.int .i64 ((rd_T42 y404 (ji28)).f1))) (fun _ h_ => h_.1)) (fun _ h_ => h_.1))) hb); have n3_ := am (k4 (g := gb394) (o := .cells #[.int .i64 ((rd_T42 l0 0).f0), .int .i64 ((rd_T42 l0 0).f1)] 42 (0, 0)) (by (with_reducible repeat (first | refine k2 ?_ _ | refine k3 ?_ | refine k1 ?_ _)); refine blk_far ?_ NB394_410.out _; (with_reducible repeat (first | refine k2 ?_ _ | refine k3 ?_ | refine k1 ?_ _)); refine blk_far ?_ NB394_410.out _; (with_reducible repeat (first | refine k2 ?_ _ | refine k3 ?_ | refine k1 ?_ _)); refine blk_far ?_ NB394_409.out _; (with_reducible repeat (first | refine k2 ?_ _ | refine k3 ?_ | refine k1 ?_ _)); refine blk_far ?_ NB394_409.out _; (with_reducible repeat (first | refine k2 ?_ _ | refine k3 ?_ | refine k1 ?_ _)); exact BK394.out) hb); have n4_ := am (k4 (g := gb395) (o := .cells #[.int .i64 (wrap64 (x396000_1 + ((rd_T42 y399 x6_1).f0))), .int .i64 (wrap64 (x396001_1 + ((rd_T42 y399 x6_1).f1)))] 42 (0, 0)) (by (with_reducible repeat (first | refine k2 ?_ _ | refine k3 ?_ | refine k1 ?_ _)); refine blk_far ?_ NB395_410.out _; (with_reducible repeat (first | refine k2 ?_ _ | refine k3 ?_ | refine k1 ?_ _)); refine blk_far ?_ NB395_410.out _; (with_reducible repeat (first | refine k2 ?_ _ | refine k3 ?_ | refine k1 ?_ _)); refine blk_far ?_ NB395_409.out _; (with_reducible repeat (first | refine k2 ?_ _ | refine k3 ?_ | refine k1 ?_ _)); refine blk_far ?_ NB395_409.out _; (with_reducible repeat (first | refine k2 ?_ _ | refine k3 ?_ | refine k1 ?_ _)); exact BK395.out) hb); have n5_ := am (k4 (g := gb409) (o := .cells #[.int .i64 ((rd_T42 y404 x6_1).f0), .int .i64 ((rd_T42 y404 x6_1).f1)] 42 (0, 0)) (by (with_reducible repeat (first | refine k2 ?_ _ | refine k3 ?_ | refine k1 ?_ _)); refine blk_far ?_ NB409_410.out _; (with_reducible repeat (first | refine k2 ?_ _ | refine k3 ?_ | refine k1 ?_ _)); refine blk_far ?_ NB409_410.out _; (with_reducible repeat (first | refine k2 ?_ _ | refine k3 ?_ | refine k1 ?_ _)); refine blk_put (cs := #[.int .i64 ((rd_T42 y404 x6_1).f0), .int .i64 0]) ?_ 1 _ rfl; (with_reducible repeat (first | refine k2 ?_ _ | refine k3 ?_ | refine k1 ?_ _)); refine blk_put (cs := #[.int .i64 0, .int .i64 0]) ?_ 0 _ rfl; (with_reducible repeat (first | refine k2 ?_ _ | refine k3 ?_ | refine k1 ?_ _)); exact BK409.out) hb); have n6_ := am (k4 (g := gb410) (o := .cells #[.int .i64 ((rd_T42 y404 (ji28)).f0), .int .i64 ((rd_T42 y404 (ji28)).f1)] 42 (0, 0)) (by (with_reducible repeat (first | refine k2 ?_ _ | refine k3 ?_ | refine k1 ?_ _)); refine blk_put (cs := #[.int .i64 ((rd_T42 y404 (ji28)).f0), .int .i64 0]) ?_ 1 _ rfl; (with_reducible repeat (first | refine k2 ?_ _ | refine k3 ?_ | refine k1 ?_ _)); refine blk_put (cs := #[.int .i64 0, .int .i64 0]) ?_ 0 _ rfl; (with_reducible repeat (first | refine k2 ?_ _ | refine k3 ?_ | refine k1 ?_ _)); refine blk_far ?_ NB410_409.out _; (with_reducible repeat (first | refine k2 ?_ _ | refine k3 ?_ | refine k1 ?_ _)); refine blk_far ?_ NB410_409.out _; (with_reducible repeat (first | refine k2 ?_ _ | refine k3 ?_ | refine k1 ?_ _)); exact BK410.out) hb); have n7_ := am (b6 (by repeat (first | (with_reducible first | exact HB.out | apply b1 | apply b2 | apply b3 | refine b4 ?_ GE394.out | refine b4 ?_ GE395.out | refine b4 ?_ GE409.out | refine b4 ?_ GE410.out) | exact HB.out)) hb); clear HO398; clear HO401; clear HO406; clear BK394; clear BK395; clear BK409; clear BK410; clear HB; have HO398 := n0_; have HO401 := n1_; have HO406 := n2_; have BK394 := n3_; have BK395 := n4_; have BK409 := n5_; have BK410 := n6_; have HB := n7_; clear n0_ n1_ n2_ n3_ n4_ n5_ n6_ n7_; (try clear hb); (try clear hb2); (try clear hk); (try clear hi); have hnb117 := NB410_394.out; have hnc117 := NB394_410.out; have hnb118 := NB410_395.out; have hnc118 := NB395_410.out; have hcz119_0 : w116.cell? ⟨gb410, 0, none⟩ = some (.int .i64 ((rd_T42 y404 (ji28)).f0)) := (kc BK410.out 0).trans rfl; have hcz119_1 : w116.cell? ⟨gb410, 1, none⟩ = some (.int .i64 ((rd_T42 y404 (ji28)).f1)) := (kc BK410.out 1).trans rfl; have hfz119_0 := kf BK410.out 0; have hfz119_1 := kf BK410.out 1) | ((with_reducible refine gate_callee (f := 70) rfl ?_); refine goesL_ (some 90) rfl rfl Tryd.func70 (by kernel_rfl) rfl #[.slice (some ad393) l0.length c0, .agg #[.int .i64 ((rd_T42 y404 (ji28)).f0), .int .i64 ((rd_T42 y404 (ji28)).f1)]] rfl (by (try simp only [List.map_toArray, List.map_cons, List.map_nil]); first | done | (simp only [hji28]; rfl) | rfl | (simp only [List.length_drop, List.length_take]; rfl)) ?_; (with_reducible refine (spec_l02Index.calls k1 _ _ l0 ((rd_T42 y404 (ji28)).f0) ((rd_T42 y404 (ji28)).f1) t412 _ ?side1 ?side2 A59.out).mono ?_); (case side1 => repeat (first | exact (Kd.C_below HR0.out HB.out) | (with_reducible refine Kd.C_alloc ?_ _) | (with_reducible refine Kd.C_drewN ?_ _) | (with_reducible refine Kd.C_drew ?_))); (case side2 => exact HC0.out); rintro e w120 ⟨rfl, hb⟩; refine ⟨_, rfl, ?_⟩; have n0_ := am (Kd.R_below (by (with_reducible repeat (first | apply Kd.R_alloc | apply Kd.R_drewN | apply Kd.R_drew)); exact HO398.out) hb); have n1_ := am (Kd.R_below (by (with_reducible repeat (first | apply Kd.R_alloc | apply Kd.R_drewN | apply Kd.R_drew)); exact HO401.out) hb); have n2_ := am (Kd.R_below (by (with_reducible repeat (first | apply Kd.R_alloc | apply Kd.R_drewN | apply Kd.R_drew)); exact HO406.out) hb); have n3_ := am (k4 (g := gb394) (o := .cells #[.int .i64 ((rd_T42 l0 0).f0), .int .i64 ((rd_T42 l0 0).f1)] 42 (0, 0)) (by (with_reducible repeat (first | refine k2 ?_ _ | refine k3 ?_ | refine k1 ?_ _)); exact BK394.out) hb); have n4_ := am (k4 (g := gb395) (o := .cells #[.int .i64 (wrap64 (x396000_1 + ((rd_T42 y399 x6_1).f0))), .int .i64 (wrap64 (x396001_1 + ((rd_T42 y399 x6_1).f1)))] 42 (0, 0)) (by (with_reducible repeat (first | refine k2 ?_ _ | refine k3 ?_ | refine k1 ?_ _)); exact BK395.out) hb); have n5_ := am (k4 (g := gb409) (o := .cells #[.int .i64 ((rd_T42 y404 x6_1).f0), .int .i64 ((rd_T42 y404 x6_1).f1)] 42 (0, 0)) (by (with_reducible repeat (first | refine k2 ?_ _ | refine k3 ?_ | refine k1 ?_ _)); exact BK409.out) hb); have n6_ := am (k4 (g := gb410) (o := .cells #[.int .i64 ((rd_T42 y404 (ji28)).f0), .int .i64 ((rd_T42 y404 (ji28)).f1)] 42 (0, 0)) (by (with_reducible repeat (first | refine k2 ?_ _ | refine k3 ?_ | refine k1 ?_ _)); exact BK410.out) hb); have n7_ := am (b6 (by repeat (first | (with_reducible first | exact HB.out | apply b1 | apply b2 | apply b3 | refine b4 ?_ GE394.out | refine b4 ?_ GE395.out | refine b4 ?_ GE409.out | refine b4 ?_ GE410.out) | exact HB.out)) hb); clear HO398; clear HO401; clear HO406; clear BK394; clear BK395; clear BK409; clear BK410; clear HB; have HO398 := n0_; have HO401 := n1_; have HO406 := n2_; have BK394 := n3_; have BK395 := n4_; have BK409 := n5_; have BK410 := n6_; have HB := n7_; clear n0_ n1_ n2_ n3_ n4_ n5_ n6_ n7_; (try clear hb); (try clear hb2); (try clear hk); (try clear hi)))
              go_roundg k1
              case measure => have := HK1.out; omega
              case rel => exact ⟨(y396), (x6_1), (wrap64 (x396000_1 + ((rd_T42 y399 x6_1).f0))), (wrap64 (x396001_1 + ((rd_T42 y399 x6_1).f1))), (by first | rfl | (simp; done) | (simp [*]; done)), H', ⟨by have := HK1.out; omega⟩, ⟨by (with_reducible repeat (first | apply Kd.R_alloc | apply Kd.R_drewN | apply Kd.R_drew)); exact HO398.out⟩, ⟨by (with_reducible repeat (first | refine k2 ?_ _ | refine k3 ?_ | refine k1 ?_ _)); exact BK394.out⟩, ⟨by (with_reducible repeat (first | refine k2 ?_ _ | refine k3 ?_ | refine k1 ?_ _)); exact BK395.out⟩, ⟨by repeat (first | (with_reducible first | exact HB.out | apply b1 | apply b2 | apply b3 | refine b4 ?_ GE394.out | refine b4 ?_ GE395.out | refine b4 ?_ GE409.out | refine b4 ?_ GE410.out) | exact HB.out)⟩⟩
           ·rw [if_neg c30] at H
            exact absurd H (by simp)
          ·rw [if_neg c29] at H
           exact absurd H (by simp)
         ·rw [if_neg c27] at H
          exact absurd H (by simp)
       ·rw [if_neg c14] at H
        exact absurd H (by simp)
      ·rw [if_neg c13] at H
       exact absurd H (by simp)
     ·rw [if_neg c11] at H
      exact absurd H (by simp)
    ·rw [if_neg c10] at H
     exact absurd H (by simp)
 ·rw [if_neg c2] at H
  exact absurd H (by simp)

end Go.Proofs.YtcgnnfaemjjljaaDoor.Q
