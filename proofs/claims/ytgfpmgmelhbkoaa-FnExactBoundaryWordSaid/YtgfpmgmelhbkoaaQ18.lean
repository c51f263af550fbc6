/- Written by a program of this session (wip/tools/pp.py) out of the translation, with the kit's printer. -/
import Derived.Test.YtgfpmgmelhbkoaaQ0
import Derived.Test.YtgfpmgmelhbkoaaQ4
import Derived.Test.YtgfpmgmelhbkoaaQ1
namespace Go.Proofs.Ytgfpmgmelhbkoaa.Q
open Go.RowKit Go.Proofs.YtgfpmgmelhbkoaaW.PrintWords Go.Proofs.YtgfpmgmelhbkoaaW.PrintLast Go.Proofs.YtgfpmgmelhbkoaaW.PrintMore
attribute [local go_sem] max2_int min2_int max_two min_two max_three min_three max_four min_four
set_option linter.unusedVariables false
set_option linter.unusedSimpArgs false

attribute [local go_sem high] eqA35
/-! ### spec_l23Word: function 21 -/
abbrev spec_l23Word.m0 : Array Bool := #[false, false, false, false, false, false, false, false, false, false, false, false, false, false, false, false, false, false]
abbrev spec_l23Word.m1 : Array Bool := #[false, false, false, false, false, false, false, false, false, false, false, false, false, false]
abbrev spec_l23Word.m2 : Array Bool := #[true, false, false, false, false, false, false, false, false, false, false, false, false, false, false, false, false, false]
abbrev spec_l23Word.m3 : Array Bool := #[true, false, false, false, false, false, false, false, false, false, false, false, false, false]
abbrev spec_l23Word.m4 : Array Bool := #[true, false, true, false, false, false, false, false, false, false, false, false, false, false, false, false, false, false]
abbrev spec_l23Word.m5 : Array Bool := #[true, false, true, true, false, false, false, false, false, false, false, false, false, false, false, false, false, false]
abbrev spec_l23Word.m6 : Array Bool := #[true, false, true, true, true, false, false, false, false, false, false, false, false, false, false, false, false, false]
abbrev spec_l23Word.m7 : Array Bool := #[true, false, true, true, true, true, false, false, false, false, false, false, false, false, false, false, false, false]
abbrev spec_l23Word.m8 : Array Bool := #[true, false, true, true, true, true, false, false, true, false, false, false, false, false, false, false, false, false]
abbrev spec_l23Word.m9 : Array Bool := #[true, false, true, true, true, true, false, false, true, false, true, false, false, false, false, false, false, false]
abbrev spec_l23Word.m10 : Array Bool := #[true, false, true, true, true, true, false, false, true, false, true, true, false, false, false, false, false, false]
abbrev spec_l23Word.m11 : Array Bool := #[true, false, true, true, true, true, false, false, true, false, true, true, true, false, false, false, false, false]
abbrev spec_l23Word.m12 : Array Bool := #[true, false, true, true, true, true, false, false, true, false, true, true, true, true, false, false, false, false]
abbrev spec_l23Word.m13 : Array Bool := #[true, true, false, false, false, false, false, false, false, false, false, false, false, false]
abbrev spec_l23Word.m14 : Array Bool := #[true, true, true, false, false, false, false, false, false, false, false, false, false, false]
abbrev spec_l23Word.m15 : Array Bool := #[true, true, true, false, true, false, false, false, false, false, false, false, false, false]
abbrev spec_l23Word.m16 : Array Bool := #[true, true, true, false, true, true, false, false, false, false, false, false, false, false]
abbrev spec_l23Word.m17 : Array Bool := #[true, true, true, false, true, true, true, false, false, false, false, false, false, false]
abbrev spec_l23Word.m18 : Array Bool := #[true, true, true, false, true, true, true, true, false, false, false, false, false, false]
abbrev spec_l23Word.m19 : Array Bool := #[true, true, true, false, true, true, true, true, true, false, false, false, false, false]
abbrev spec_l23Word.m20 : Array Bool := #[true, true, true, true, true, true, false, false, true, false, true, true, true, true, false, false, false, false]
abbrev spec_l23Word.m21 : Array Bool := #[true, true, true, true, true, true, true, false, true, false, true, true, true, true, false, false, false, false]
abbrev spec_l23Word.m22 : Array Bool := #[true, true, true, true, true, true, true, true, true, false, false, false, false, false]
abbrev spec_l23Word.m23 : Array Bool := #[true, true, true, true, true, true, true, true, true, false, true, true, true, true, false, false, false, false]
abbrev spec_l23Word.m24 : Array Bool := #[true, true, true, true, true, true, true, true, true, true, false, false, false, false]
abbrev spec_l23Word.m25 : Array Bool := #[true, true, true, true, true, true, true, true, true, true, false, true, false, false]
abbrev spec_l23Word.m26 : Array Bool := #[true, true, true, true, true, true, true, true, true, true, true, false, false, false]
abbrev spec_l23Word.m27 : Array Bool := #[true, true, true, true, true, true, true, true, true, true, true, true, false, false]
abbrev spec_l23Word.m28 : Array Bool := #[true, true, true, true, true, true, true, true, true, true, true, true, true, false]
abbrev spec_l23Word.m29 : Array Bool := #[true, true, true, true, true, true, true, true, true, true, true, true, true, true, false, false, false, false]
abbrev spec_l23Word.m30 : Array Bool := #[true, true, true, true, true, true, true, true, true, true, true, true, true, true, true, false, false, false]
abbrev spec_l23Word.m31 : Array Bool := #[true, true, true, true, true, true, true, true, true, true, true, true, true, true, true, true, false, false]
abbrev spec_l23Word.m32 : Array Bool := #[true, true, true, true, true, true, true, true, true, true, true, true, true, true, true, true, true, false]
abbrev spec_l23Word.m33 : Array Bool := #[true, true, true, true, true, true, true, true, true, true, true, true, true, true, true, true, true, true]
abbrev spec_l23Word.m34 : Array Bool := #[true, true, true, true, true, true, true, true, true, true, true, true, true, true]
def spec_l23Word.l0 : Nat → List (S35) → List Int → Int → Int → Int → Int → Int → Option (ByteArray)
 | 0, _, _, _, _, _, _, _ => none
 | k + 1, x0, x3, x6, x295000, x295001, x296000, x296001 => if 0 ≤ x6 then (if x6 < 4 then (if x3.length < 140737488355328 then ((some (x3 ++ [bt (⟨#[114, 100, 108, 117]⟩ : ByteArray) x6] : List Int)).bind fun y296 => ((some (([(⟨1, 0⟩ : S35), (⟨0, 1⟩ : S35), (⟨(-1), 0⟩ : S35), (⟨0, (-1)⟩ : S35)] : List (S35)) : List (S35))).bind fun y299 => (if x6 < (y299.length : Int) then (if ((wrap64 (x296000 + ((rd_T35 y299 x6).f0))) == x295000 && ((wrap64 (x296001 + ((rd_T35 y299 x6).f1))) == x295001)) = true then (some (strOfNums y296)) else ((some (([(⟨wrap64 (x296000 + ((rd_T35 y299 x6).f0)), wrap64 ((wrap64 (x296001 + ((rd_T35 y299 x6).f1))) - 1)⟩ : S35), (⟨wrap64 (x296000 + ((rd_T35 y299 x6).f0)), wrap64 (x296001 + ((rd_T35 y299 x6).f1))⟩ : S35), (⟨wrap64 ((wrap64 (x296000 + ((rd_T35 y299 x6).f0))) - 1), wrap64 (x296001 + ((rd_T35 y299 x6).f1))⟩ : S35), (⟨wrap64 ((wrap64 (x296000 + ((rd_T35 y299 x6).f0))) - 1), wrap64 ((wrap64 (x296001 + ((rd_T35 y299 x6).f1))) - 1)⟩ : S35)] : List (S35)) : List (S35))).bind fun y304 => (if x6 < (y304.length : Int) then (if 0 ≤ (Int.tmod (wrap64 (x6 + 1)) 4) then (if (Int.tmod (wrap64 (x6 + 1)) 4) < (y304.length : Int) then ((spec_l02Index.f k x0 ((rd_T35 y304 x6).f0) ((rd_T35 y304 x6).f1)).bind fun t311 => (if t311 ≥ 0 then (spec_l23Word.l0 k x0 y296 (Int.tmod (wrap64 (x6 + 3)) 4) x295000 x295001 (wrap64 (x296000 + ((rd_T35 y299 x6).f0))) (wrap64 (x296001 + ((rd_T35 y299 x6).f1)))) else ((spec_l02Index.f k x0 ((rd_T35 y304 (Int.tmod (wrap64 (x6 + 1)) 4)).f0) ((rd_T35 y304 (Int.tmod (wrap64 (x6 + 1)) 4)).f1)).bind fun t312 => (if t312 < 0 then (spec_l23Word.l0 k x0 y296 (Int.tmod (wrap64 (x6 + 1)) 4) x295000 x295001 (wrap64 (x296000 + ((rd_T35 y299 x6).f0))) (wrap64 (x296001 + ((rd_T35 y299 x6).f1)))) else (spec_l23Word.l0 k x0 y296 x6 x295000 x295001 (wrap64 (x296000 + ((rd_T35 y299 x6).f0))) (wrap64 (x296001 + ((rd_T35 y299 x6).f1)))))))) else (none)) else (none)) else (none)))) else (none)))) else (none)) else (none)) else (none)
def spec_l23Word.f (k : Nat) (l0 : List (S35)) : Option (ByteArray) := if 0 < (l0.length : Int) then (spec_l23Word.l0 k l0 (([] : List Int)) 0 ((rd_T35 l0 0).f0) ((rd_T35 l0 0).f1) ((rd_T35 l0 0).f0) ((rd_T35 l0 0).f1)) else (none)
theorem spec_l23Word.mono_l : ∀ k, (∀ y0 y1 y2 y3 y4 y5 y6, LeO (spec_l23Word.l0 k y0 y1 y2 y3 y4 y5 y6) (spec_l23Word.l0 (k + 1) y0 y1 y2 y3 y4 y5 y6))
 | 0 => fun _ _ _ _ _ _ _ r h => by simp [spec_l23Word.l0] at h
 | k + 1 => by
  have ih0 := spec_l23Word.mono_l k
  ·intro y0 y1 y2 y3 y4 y5 y6
   unfold spec_l23Word.l0
   repeat' first
   | (with_reducible exact ih0 _ _ _ _ _ _ _)
   | (with_reducible exact spec_l02Index.mono _ _ _ _)
   | (with_reducible exact LeO.refl _)
   | (with_reducible exact LeO.none _)
   | (with_reducible refine LeO.ite ?_ ?_)
   | (with_reducible refine LeO.bind ?_ (fun _ => ?_))
   | exact ih0 _ _ _ _ _ _ _
   | exact spec_l02Index.mono _ _ _ _
   | exact LeO.none _
   | refine LeO.ite ?_ ?_
   | refine LeO.bind ?_ (fun _ => ?_)
theorem spec_l23Word.mono : ∀ a0 k, LeO (spec_l23Word.f k a0) (spec_l23Word.f (k + 1) a0) := by
 intro a0 k
 have ih0 := spec_l23Word.mono_l k
 unfold spec_l23Word.f
 repeat' first
   | (with_reducible exact ih0 _ _ _ _ _ _ _)
   | (with_reducible exact spec_l02Index.mono _ _ _ _)
   | (with_reducible exact LeO.refl _)
   | (with_reducible exact LeO.none _)
   | (with_reducible refine LeO.ite ?_ ?_)
   | (with_reducible refine LeO.bind ?_ (fun _ => ?_))
   | exact ih0 _ _ _ _ _ _ _
   | exact spec_l02Index.mono _ _ _ _
   | exact LeO.none _
   | refine LeO.ite ?_ ?_
   | refine LeO.bind ?_ (fun _ => ?_)
def spec_l23Word.T7 : Bool × List (List Nat × List Nat) := (true, [([], []), ([0], [0]), ([], []), ([], []), ([2, 3], [2, 3]), ([4], [4]), ([5], [5]), ([1, 6], [1, 6]), ([], []), ([8], [8]), ([], []), ([], []), ([10, 11], [10, 11]), ([12], [12]), ([13], [13]), ([9, 14], [9, 14]), ([7, 15], [7, 15]), ([16, 0, 1, 2, 3, 4, 5, 6, 7, 8, 9, 10, 11, 12, 13, 14, 15, 16], [16])])
def spec_l23Word.B7 : List Nat := [0, 1, 0, 0, 12, 28, 60, 127, 0, 256, 0, 0, 3072, 7168, 15360, 32512, 65535, 131071]
theorem spec_l23Word.tab7 : rtab .any (opsOf Try.f21 7) = spec_l23Word.T7 := by kernel_rfl
theorem spec_l23Word.bits7 : waitsOk spec_l23Word.T7.2 spec_l23Word.B7 = true := by kernel_rfl
def spec_l23Word.T11 : Bool × List (List Nat × List Nat) := (true, [([], []), ([], []), ([0, 1], [0, 1]), ([2], [2]), ([], []), ([], []), ([5], [5]), ([6], [6]), ([4, 7], [4, 7]), ([8], [8]), ([], []), ([], []), ([10, 3, 0, 1, 2, 3, 10, 11], [3, 10]), ([11, 9, 12, 0, 1, 2, 3, 4, 5, 6, 7, 8, 9, 10, 11, 12], [9, 11])])
def spec_l23Word.B11 : List Nat := [0, 0, 3, 7, 0, 0, 32, 96, 240, 496, 0, 0, 3087, 8191]
theorem spec_l23Word.tab11 : rtab .any (opsOf Try.f21 11) = spec_l23Word.T11 := by kernel_rfl
theorem spec_l23Word.bits11 : waitsOk spec_l23Word.T11.2 spec_l23Word.B11 = true := by kernel_rfl
set_option maxHeartbeats 8000000 in
set_option maxRecDepth 100000 in
theorem spec_l23Word.calls (k : Nat) (A0 : Option Addr) (c0 : Nat) (l0 : List (S35)) (r : ByteArray) (w : World) (hr0 : Kd.C k35 w A0 l0.length l0) (hc0 : l0.length ≤ c0) (h : spec_l23Word.f k l0 = some r) :
  Calls Try.prog 21 #[.slice A0 l0.length c0] w fun e w' => e = .returned (.string r) ∧ Below w.heap.size w w' := by
 have hu35 := Try.underlying35
 have HR0 := am hr0
 have HC0 := am hc0
 clear hr0 hc0
 have HB := am (Below.refl w.heap.size w)
 have H : (if 0 < (l0.length : Int) then (spec_l23Word.l0 k l0 (([] : List Int)) 0 ((rd_T35 l0 0).f0) ((rd_T35 l0 0).f1) ((rd_T35 l0 0).f0) ((rd_T35 l0 0).f1)) else (none)) = some r := h
 clear h
 obtain ⟨y290, hy290⟩ : ∃ y_ : List Int, y_ = (([] : List Int)) := ⟨_, rfl⟩
 replace H : (if 0 < (l0.length : Int) then (spec_l23Word.l0 k l0 y290 0 ((rd_T35 l0 0).f0) ((rd_T35 l0 0).f1) ((rd_T35 l0 0).f0) ((rd_T35 l0 0).f1)) else (none)) = some r := by first | (rw [hy290]; with_reducible exact H) | (have H2_ := (Option.bind_some _ _).symm.trans H; rw [hy290]; with_reducible exact H2_) | (have H2_ := (Option.bind_some _ _).symm.trans H; with_reducible exact H2_) | with_reducible exact H | (rw [hy290]; exact H) | exact H
 have Ny290 := am hy290
 clear hy290
 by_cases c2 : 0 < (l0.length : Int)
 ·rw [if_pos c2] at H
  have c2b0 : decide (0 < (l0.length : Int)) = true := decide_eq_true c2
  have c2b1 : decide (0 < l0.length) = true := decide_eq_true (by omega)
  clear c2
  have H' := am H
  clear H
  go_enter Try.func21, Try.ntmps21
  go_wp2_with (first | ((with_reducible refine gate_dst (N := 11) rfl ?_); refine Kd.R_lit (Kd.int .u8) _ 5 ?hg (N := 11) ?hd (xs := ([] : List Int)) (inner := []) (ok := fun _ => True) (okp := fun _ => True) ?hr ?hp (fun _ hk => hk) trivial (Below.refl _ _) (Nat.le_refl _) (by simp) ?_; (case hd => rfl); (case hg => rfl); (case hr => first | (go_simp; done) | (go_simp; rfl)); (case hp => exact (Reps.none _ _)); intro v291 w3 ho4 hb hg_ hnew_; clear hg_ hnew_; (first | rw [← Ny290.out] at ho4 | (simp only [Int.reduceToNat] at ho4; rw [← Ny290.out] at ho4)); have n0_ := am (Kd.R_lower ho4 (Bb5 (by repeat (first | (with_reducible first | exact HB.out | apply Bb1 | apply Bb2 | apply Bb3) | exact HB.out)))); have n1_ := am (Bb6 (by repeat (first | (with_reducible first | exact HB.out | apply Bb1 | apply Bb2 | apply Bb3) | exact HB.out)) hb); clear HB; have HO292 := n0_; have HB := n1_; clear n0_ n1_; clear hb ho4; have p293 : 0 ≤ (0 : Int) := (by omega); have q293 : 0 < (l0.length : Int) := of_decide_eq_true (by first | (with_reducible assumption) | assumption); obtain ⟨ad293, e293, hx293_0, hx293_1⟩ := at_T35 HR0.out 0 p293 q293; cases e293; have qi293 : (0 < l0.length) = True := eq_true (by omega); (try rw [show ((0 : Int)).toNat = 0 from rfl] at hx293_0); (try rw [show 0 * 2 = 0 from rfl] at hx293_0); (try rw [Addr.add_zero'] at hx293_0); (try rw [show ((0 : Int)).toNat = 0 from rfl] at hx293_1); (try rw [show 0 * 2 = 0 from rfl] at hx293_1); (try rw [Addr.add_zero'] at hx293_1); replace hx293_0 := pc HB.out hx293_0; replace hx293_1 := pc HB.out hx293_1; replace p293 := eq_true p293; replace q293 := eq_true q293) | ((with_reducible refine gate_dst (N := 4) rfl ?_); refine box_event ?hg (N := 4) ?hd (cs := #[.int .i64 0, .int .i64 0]) (t := 35) ?hr ?_; (case hd => rfl); (case hg => rfl); (case hr => first | (go_simp; done) | (go_simp; rfl)); intro gb294 hg w5 hbox hb; have n0_ := am (Kd.R_below (by (with_reducible repeat (first | apply Kd.R_alloc | apply Kd.R_drewN | apply Kd.R_drew)); exact HO292.out) hb); have n1_ := am (Bb6 (by repeat (first | (with_reducible first | exact HB.out | apply Bb1 | apply Bb2 | apply Bb3) | exact HB.out)) hb); have n2_ := am (hbox); have n3_ := am ((by rw [hg]; exact (Bb5 (by repeat (first | (with_reducible first | exact HB.out | apply Bb1 | apply Bb2 | apply Bb3) | exact HB.out))) : w.heap.size ≤ gb294)); have n4_ := n3_; clear HO292; clear HB; have HO292 := n0_; have HB := n1_; have BK294 := n2_; have GW294 := n3_; have GE294 := n4_; clear n0_ n1_ n2_ n3_ n4_; clear hb hbox hg; have hcz6_0 : w5.cell? ⟨gb294, 0, none⟩ = some (.int .i64 0) := (kc BK294.out 0).trans rfl; have hcz6_1 : w5.cell? ⟨gb294, 1, none⟩ = some (.int .i64 0) := (kc BK294.out 1).trans rfl; have hfz6_0 := kf BK294.out 0; have hfz6_1 := kf BK294.out 1) | ((with_reducible refine gate_dst (N := 5) rfl ?_); refine box_event ?hg (N := 5) ?hd (cs := #[.int .i64 0, .int .i64 0]) (t := 35) ?hr ?_; (case hd => rfl); (case hg => rfl); (case hr => first | (go_simp; done) | (go_simp; rfl)); intro gb295 hg w7 hbox hb; have n0_ := am (Kd.R_below (by (with_reducible repeat (first | apply Kd.R_alloc | apply Kd.R_drewN | apply Kd.R_drew)); exact (Kd.R_mono (Kd.R_far (p := ⟨gb294, 1, none⟩) (Kd.R_far (p := ⟨gb294, 0, none⟩) (Kd.R_types HO292.out BK294.out (by decide)) (fun _ hk => hk.2) (.int .i64 ((rd_T35 l0 0).f0))) (fun _ hk => hk.2) (.int .i64 ((rd_T35 l0 0).f1))) (fun _ h_ => h_.1))) hb); have n1_ := am (Bk4 (g := gb294) (o := .cells #[.int .i64 ((rd_T35 l0 0).f0), .int .i64 ((rd_T35 l0 0).f1)] 35 (0, 0)) (by (with_reducible repeat (first | refine Bk2 ?_ _ | refine Bk3 ?_ | refine Bk1 ?_ _)); refine blk_put (cs := #[.int .i64 ((rd_T35 l0 0).f0), .int .i64 0]) ?_ 1 _ rfl; (with_reducible repeat (first | refine Bk2 ?_ _ | refine Bk3 ?_ | refine Bk1 ?_ _)); refine blk_put (cs := #[.int .i64 0, .int .i64 0]) ?_ 0 _ rfl; (with_reducible repeat (first | refine Bk2 ?_ _ | refine Bk3 ?_ | refine Bk1 ?_ _)); exact BK294.out) hb); have n2_ := am (Bb6 (by repeat (first | (with_reducible first | exact HB.out | apply Bb1 | apply Bb2 | apply Bb3 | refine Bb4 ?_ GE294.out) | exact HB.out)) hb); have n3_ := am (hbox); have n4_ := am ((by rw [hg]; exact (Bb5 (by repeat (first | (with_reducible first | exact HB.out | apply Bb1 | apply Bb2 | apply Bb3 | refine Bb4 ?_ GE294.out) | exact HB.out))) : w.heap.size ≤ gb295)); have n5_ := n4_; have n6_ := am ((by rw [hg]; exact nl (Bk5 (g := gb294) (o := .cells #[.int .i64 ((rd_T35 l0 0).f0), .int .i64 ((rd_T35 l0 0).f1)] 35 (0, 0)) (by (with_reducible repeat (first | refine Bk2 ?_ _ | refine Bk3 ?_ | refine Bk1 ?_ _)); refine blk_put (cs := #[.int .i64 ((rd_T35 l0 0).f0), .int .i64 0]) ?_ 1 _ rfl; (with_reducible repeat (first | refine Bk2 ?_ _ | refine Bk3 ?_ | refine Bk1 ?_ _)); refine blk_put (cs := #[.int .i64 0, .int .i64 0]) ?_ 0 _ rfl; (with_reducible repeat (first | refine Bk2 ?_ _ | refine Bk3 ?_ | refine Bk1 ?_ _)); exact BK294.out)) : gb294 ≠ gb295)); have n7_ := am ((by rw [hg]; exact ng (Bk5 (g := gb294) (o := .cells #[.int .i64 ((rd_T35 l0 0).f0), .int .i64 ((rd_T35 l0 0).f1)] 35 (0, 0)) (by (with_reducible repeat (first | refine Bk2 ?_ _ | refine Bk3 ?_ | refine Bk1 ?_ _)); refine blk_put (cs := #[.int .i64 ((rd_T35 l0 0).f0), .int .i64 0]) ?_ 1 _ rfl; (with_reducible repeat (first | refine Bk2 ?_ _ | refine Bk3 ?_ | refine Bk1 ?_ _)); refine blk_put (cs := #[.int .i64 0, .int .i64 0]) ?_ 0 _ rfl; (with_reducible repeat (first | refine Bk2 ?_ _ | refine Bk3 ?_ | refine Bk1 ?_ _)); exact BK294.out)) : gb295 ≠ gb294)); clear HO292; clear BK294; clear HB; have HO292 := n0_; have BK294 := n1_; have HB := n2_; have BK295 := n3_; have GW295 := n4_; have GE295 := n5_; have NB294_295 := n6_; have NB295_294 := n7_; clear n0_ n1_ n2_ n3_ n4_ n5_ n6_ n7_; clear hb hbox hg; have hnb8 := NB295_294.out; have hnc8 := NB294_295.out; have hcz9_0 : w7.cell? ⟨gb295, 0, none⟩ = some (.int .i64 0) := (kc BK295.out 0).trans rfl; have hcz9_1 : w7.cell? ⟨gb295, 1, none⟩ = some (.int .i64 0) := (kc BK295.out 1).trans rfl; have hfz9_0 := kf BK295.out 0; have hfz9_1 := kf BK295.out 1))
  go_loopg [3, 6] k (fun kq v3 v6 w' => ∃ (x3_1 : List Int) (x6_1 : Int) (x296000_1 : Int) (x296001_1 : Int), v6 = .int .i64 x6_1 ∧ Aside0 (spec_l23Word.l0 kq l0 x3_1 x6_1 ((rd_T35 l0 0).f0) ((rd_T35 l0 0).f1) x296000_1 x296001_1 = some r) ∧ Aside0 (kq ≤ k) ∧ Aside0 (Kd.R (Kd.int .u8) 5 w' w.heap.size (fun _ => True) v3 x3_1) ∧ Aside0 (w'.heap[gb294]? = some (.cells #[.int .i64 ((rd_T35 l0 0).f0), .int .i64 ((rd_T35 l0 0).f1)] 35 (0, 0))) ∧ Aside0 (w'.heap[gb295]? = some (.cells #[.int .i64 x296000_1, .int .i64 x296001_1] 35 (0, 0))) ∧ Aside0 (Below w.heap.size w w'))
  case atStart => exact ⟨(y290), (0), ((rd_T35 l0 0).f0), ((rd_T35 l0 0).f1), (by first | rfl | (simp; done) | (simp [*]; done)), H', ⟨Nat.le_refl _⟩, ⟨by (with_reducible repeat (first | apply Kd.R_alloc | apply Kd.R_drewN | apply Kd.R_drew)); exact Kd.R_mono (Kd.R_far (p := ⟨gb295, 1, none⟩) (Kd.R_far (p := ⟨gb295, 0, none⟩) (Kd.R_types HO292.out BK295.out (by decide)) (fun _ hk => hk.2) (.int .i64 ((rd_T35 l0 0).f0))) (fun _ hk => hk.2) (.int .i64 ((rd_T35 l0 0).f1))) (fun _ hk => trivial)⟩, ⟨by (with_reducible repeat (first | refine Bk2 ?_ _ | refine Bk3 ?_ | refine Bk1 ?_ _)); refine blk_far ?_ NB294_295.out _; (with_reducible repeat (first | refine Bk2 ?_ _ | refine Bk3 ?_ | refine Bk1 ?_ _)); refine blk_far ?_ NB294_295.out _; (with_reducible repeat (first | refine Bk2 ?_ _ | refine Bk3 ?_ | refine Bk1 ?_ _)); exact BK294.out⟩, ⟨by (with_reducible repeat (first | refine Bk2 ?_ _ | refine Bk3 ?_ | refine Bk1 ?_ _)); refine blk_put (cs := #[.int .i64 ((rd_T35 l0 0).f0), .int .i64 0]) ?_ 1 _ rfl; (with_reducible repeat (first | refine Bk2 ?_ _ | refine Bk3 ?_ | refine Bk1 ?_ _)); refine blk_put (cs := #[.int .i64 0, .int .i64 0]) ?_ 0 _ rfl; (with_reducible repeat (first | refine Bk2 ?_ _ | refine Bk3 ?_ | refine Bk1 ?_ _)); exact BK295.out⟩, ⟨by repeat (first | (with_reducible first | exact HB.out | apply Bb1 | apply Bb2 | apply Bb3 | refine Bb4 ?_ GE294.out | refine Bb4 ?_ GE295.out) | exact HB.out)⟩⟩
  case round =>
   clear H'
   try clear c2
   try clear c2b0
   try clear c2b1
   try clear p2
   try clear q2
   try clear hx2
   try clear qi2
   try clear c8
   try clear hcz6_0
   try clear hcz6_1
   try clear hcz9_0
   try clear hcz9_1
   try clear hfz6_0
   try clear hfz6_1
   try clear hfz9_0
   try clear hfz9_1
   try clear hx293_0
   try clear hx293_1
   try clear p293
   try clear q293
   obtain ⟨x3_1, x6_1, x296000_1, x296001_1, rfl, HA, HK1, HO_3, BK294, BK295, HB⟩ := hrel
   cases gk with
   | zero => exact absurd HA.out (by simp [spec_l23Word.l0])
   | succ k1 =>
    have H := HA.out
    clear HA
    simp only [spec_l23Word.l0] at H
    by_cases c10 : 0 ≤ x6_1
    ·rw [if_pos c10] at H
     have c10b0 : decide (0 ≤ x6_1) = true := decide_eq_true c10
     clear c10
     by_cases c11 : x6_1 < 4
     ·rw [if_pos c11] at H
      have c11b0 : decide (x6_1 < 4) = true := decide_eq_true c11
      clear c11
      by_cases c13 : x3_1.length < 140737488355328
      ·rw [if_pos c13] at H
       have LMc13 := am c13
       clear c13
       obtain ⟨y296, hy296⟩ : ∃ y_ : List Int, y_ = (x3_1 ++ [bt (⟨#[114, 100, 108, 117]⟩ : ByteArray) x6_1]) := ⟨_, rfl⟩
       replace H : ((some (([(⟨1, 0⟩ : S35), (⟨0, 1⟩ : S35), (⟨(-1), 0⟩ : S35), (⟨0, (-1)⟩ : S35)] : List (S35)) : List (S35))).bind fun y299 => (if x6_1 < (y299.length : Int) then (if ((wrap64 (x296000_1 + ((rd_T35 y299 x6_1).f0))) == ((rd_T35 l0 0).f0) && ((wrap64 (x296001_1 + ((rd_T35 y299 x6_1).f1))) == ((rd_T35 l0 0).f1))) = true then (some (strOfNums y296)) else ((some (([(⟨wrap64 (x296000_1 + ((rd_T35 y299 x6_1).f0)), wrap64 ((wrap64 (x296001_1 + ((rd_T35 y299 x6_1).f1))) - 1)⟩ : S35), (⟨wrap64 (x296000_1 + ((rd_T35 y299 x6_1).f0)), wrap64 (x296001_1 + ((rd_T35 y299 x6_1).f1))⟩ : S35), (⟨wrap64 ((wrap64 (x296000_1 + ((rd_T35 y299 x6_1).f0))) - 1), wrap64 (x296001_1 + ((rd_T35 y299 x6_1).f1))⟩ : S35), (⟨wrap64 ((wrap64 (x296000_1 + ((rd_T35 y299 x6_1).f0))) - 1), wrap64 ((wrap64 (x296001_1 + ((rd_T35 y299 x6_1).f1))) - 1)⟩ : S35)] : List (S35)) : List (S35))).bind fun y304 => (if x6_1 < (y304.length : Int) then (if 0 ≤ (Int.tmod (wrap64 (x6_1 + 1)) 4) then (if (Int.tmod (wrap64 (x6_1 + 1)) 4) < (y304.length : Int) then ((spec_l02Index.f k1 l0 ((rd_T35 y304 x6_1).f0) ((rd_T35 y304 x6_1).f1)).bind fun t311 => (if t311 ≥ 0 then (spec_l23Word.l0 k1 l0 y296 (Int.tmod (wrap64 (x6_1 + 3)) 4) ((rd_T35 l0 0).f0) ((rd_T35 l0 0).f1) (wrap64 (x296000_1 + ((rd_T35 y299 x6_1).f0))) (wrap64 (x296001_1 + ((rd_T35 y299 x6_1).f1)))) else ((spec_l02Index.f k1 l0 ((rd_T35 y304 (Int.tmod (wrap64 (x6_1 + 1)) 4)).f0) ((rd_T35 y304 (Int.tmod (wrap64 (x6_1 + 1)) 4)).f1)).bind fun t312 => (if t312 < 0 then (spec_l23Word.l0 k1 l0 y296 (Int.tmod (wrap64 (x6_1 + 1)) 4) ((rd_T35 l0 0).f0) ((rd_T35 l0 0).f1) (wrap64 (x296000_1 + ((rd_T35 y299 x6_1).f0))) (wrap64 (x296001_1 + ((rd_T35 y299 x6_1).f1)))) else (spec_l23Word.l0 k1 l0 y296 x6_1 ((rd_T35 l0 0).f0) ((rd_T35 l0 0).f1) (wrap64 (x296000_1 + ((rd_T35 y299 x6_1).f0))) (wrap64 (x296001_1 + ((rd_T35 y299 x6_1).f1)))))))) else (none)) else (none)) else (none)))) else (none))) = some r := by first | (rw [hy296]; with_reducible exact H) | (have H2_ := (Option.bind_some _ _).symm.trans H; rw [hy296]; with_reducible exact H2_) | (have H2_ := (Option.bind_some _ _).symm.trans H; with_reducible exact H2_) | with_reducible exact H | (rw [hy296]; exact H) | exact H
       have Ny296 := am hy296
       clear hy296
       obtain ⟨y299, hy299⟩ : ∃ y_ : List (S35), y_ = (([(⟨1, 0⟩ : S35), (⟨0, 1⟩ : S35), (⟨(-1), 0⟩ : S35), (⟨0, (-1)⟩ : S35)] : List (S35))) := ⟨_, rfl⟩
       replace H : (if x6_1 < (y299.length : Int) then (if ((wrap64 (x296000_1 + ((rd_T35 y299 x6_1).f0))) == ((rd_T35 l0 0).f0) && ((wrap64 (x296001_1 + ((rd_T35 y299 x6_1).f1))) == ((rd_T35 l0 0).f1))) = true then (some (strOfNums y296)) else ((some (([(⟨wrap64 (x296000_1 + ((rd_T35 y299 x6_1).f0)), wrap64 ((wrap64 (x296001_1 + ((rd_T35 y299 x6_1).f1))) - 1)⟩ : S35), (⟨wrap64 (x296000_1 + ((rd_T35 y299 x6_1).f0)), wrap64 (x296001_1 + ((rd_T35 y299 x6_1).f1))⟩ : S35), (⟨wrap64 ((wrap64 (x296000_1 + ((rd_T35 y299 x6_1).f0))) - 1), wrap64 (x296001_1 + ((rd_T35 y299 x6_1).f1))⟩ : S35), (⟨wrap64 ((wrap64 (x296000_1 + ((rd_T35 y299 x6_1).f0))) - 1), wrap64 ((wrap64 (x296001_1 + ((rd_T35 y299 x6_1).f1))) - 1)⟩ : S35)] : List (S35)) : List (S35))).bind fun y304 => (if x6_1 < (y304.length : Int) then (if 0 ≤ (Int.tmod (wrap64 (x6_1 + 1)) 4) then (if (Int.tmod (wrap64 (x6_1 + 1)) 4) < (y304.length : Int) then ((spec_l02Index.f k1 l0 ((rd_T35 y304 x6_1).f0) ((rd_T35 y304 x6_1).f1)).bind fun t311 => (if t311 ≥ 0 then (spec_l23Word.l0 k1 l0 y296 (Int.tmod (wrap64 (x6_1 + 3)) 4) ((rd_T35 l0 0).f0) ((rd_T35 l0 0).f1) (wrap64 (x296000_1 + ((rd_T35 y299 x6_1).f0))) (wrap64 (x296001_1 + ((rd_T35 y299 x6_1).f1)))) else ((spec_l02Index.f k1 l0 ((rd_T35 y304 (Int.tmod (wrap64 (x6_1 + 1)) 4)).f0) ((rd_T35 y304 (Int.tmod (wrap64 (x6_1 + 1)) 4)).f1)).bind fun t312 => (if t312 < 0 then (spec_l23Word.l0 k1 l0 y296 (Int.tmod (wrap64 (x6_1 + 1)) 4) ((rd_T35 l0 0).f0) ((rd_T35 l0 0).f1) (wrap64 (x296000_1 + ((rd_T35 y299 x6_1).f0))) (wrap64 (x296001_1 + ((rd_T35 y299 x6_1).f1)))) else (spec_l23Word.l0 k1 l0 y296 x6_1 ((rd_T35 l0 0).f0) ((rd_T35 l0 0).f1) (wrap64 (x296000_1 + ((rd_T35 y299 x6_1).f0))) (wrap64 (x296001_1 + ((rd_T35 y299 x6_1).f1)))))))) else (none)) else (none)) else (none)))) else (none)) = some r := by first | (rw [hy299]; with_reducible exact H) | (have H2_ := (Option.bind_some _ _).symm.trans H; rw [hy299]; with_reducible exact H2_) | (have H2_ := (Option.bind_some _ _).symm.trans H; with_reducible exact H2_) | with_reducible exact H | (rw [hy299]; exact H) | exact H
       have Ny299 := am hy299
       clear hy299
       by_cases c14 : x6_1 < (y299.length : Int)
       ·rw [if_pos c14] at H
        have c14b0 : decide (x6_1 < (y299.length : Int)) = true := decide_eq_true c14
        clear c14
        by_cases c15 : ((wrap64 (x296000_1 + ((rd_T35 y299 x6_1).f0))) == ((rd_T35 l0 0).f0) && ((wrap64 (x296001_1 + ((rd_T35 y299 x6_1).f1))) == ((rd_T35 l0 0).f1))) = true
        ·rw [if_pos c15] at H
         have c15b0 : ((wrap64 (x296000_1 + ((rd_T35 y299 x6_1).f0))) == ((rd_T35 l0 0).f0) && ((wrap64 (x296001_1 + ((rd_T35 y299 x6_1).f1))) == ((rd_T35 l0 0).f1))) = true := c15
         (try (have c15b1 : decide ((wrap64 (x296000_1 + ((rd_T35 y299 x6_1).f0))) = ((rd_T35 l0 0).f0) && ((wrap64 (x296001_1 + ((rd_T35 y299 x6_1).f1))) == ((rd_T35 l0 0).f1))) = true := by simpa using c15))
         (try (have c15b2 : ((wrap64 (x296000_1 + ((rd_T35 y299 x6_1).f0))) == ((rd_T35 l0 0).f0) && ((wrap64 (x296001_1 + ((rd_T35 y299 x6_1).f1))) == ((rd_T35 l0 0).f1))) = true := by simpa using c15))
         clear c15
         obtain rfl := oi H
         have p12 : 0 ≤ (x6_1 : Int) := of_decide_eq_true (by first | (with_reducible assumption) | assumption)
         have q12 : x6_1 < (4 : Int) := of_decide_eq_true (by first | (with_reducible assumption) | assumption)
         have hx12 := bt_at (⟨#[114, 100, 108, 117]⟩ : ByteArray) x6_1
         replace p12 := eq_true p12
         replace q12 := eq_true q12
         try go_wp2_with (first | ((with_reducible refine gate_builtin (b := .append) (xs := #[.tmp 16, .tmp 19]) rfl ?_); at_builtin; refine Kd.R_append (Kd.int .u8) (w0 := w) w.heap.size rfl (.tmp 16) (.tmp 19) 53 5 (.int .u8 0) 1 rfl Try.underlying53 info5 rfl (by decide) (by omega) u3 x3_1 (bt (⟨#[114, 100, 108, 117]⟩ : ByteArray) x6_1) [.int .u8 (bt (⟨#[114, 100, 108, 117]⟩ : ByteArray) x6_1)] (fun _ => True) (fun _ => False) rfl rfl ?aP (fun _ hk => hk.elim) ?aF ?aO ?aB ?aS ?aL ?_; (case aP => exact rfl); (case aB => exact (by repeat (first | (with_reducible first | exact HB.out | apply Bb1 | apply Bb2 | apply Bb3 | refine Bb4 ?_ GE294.out | refine Bb4 ?_ GE295.out) | exact HB.out))); (case aF => exact (fun _ _ => trivial)); (case aO => exact (by (with_reducible repeat (first | apply Kd.R_alloc | apply Kd.R_drewN | apply Kd.R_drew)); exact HO_3.out)); (case aS => exact (Bb5 (by repeat (first | (with_reducible first | exact HB.out | apply Bb1 | apply Bb2 | apply Bb3 | refine Bb4 ?_ GE294.out | refine Bb4 ?_ GE295.out) | exact HB.out)))); (case aL => first | (have := LMc13.out; omega) | (have h_ := Nat.le_of_lt LMc13.out; exact h_)); intro v297 w16 ho hb hg hat; rw [← Ny296.out] at ho; have n0_ := am (blk_grown (g := gb294) (o := .cells #[.int .i64 ((rd_T35 l0 0).f0), .int .i64 ((rd_T35 l0 0).f1)] 35 (0, 0)) (by (with_reducible repeat (first | refine Bk2 ?_ _ | refine Bk3 ?_ | refine Bk1 ?_ _)); exact BK294.out) hg (Kd.R_ne HO_3.out BK294.out (by decide))); have n1_ := am (blk_grown (g := gb295) (o := .cells #[.int .i64 x296000_1, .int .i64 x296001_1] 35 (0, 0)) (by (with_reducible repeat (first | refine Bk2 ?_ _ | refine Bk3 ?_ | refine Bk1 ?_ _)); exact BK295.out) hg (Kd.R_ne HO_3.out BK295.out (by decide))); have n2_ := am (hb); have n3_ := am (ho); clear BK294; clear BK295; clear HB; clear HO_3; have BK294 := n0_; have BK295 := n1_; have HB := n2_; have HO298 := n3_; clear n0_ n1_ n2_ n3_; clear ho hb hg hat) | ((with_reducible refine gate_dst (N := 25) rfl ?_); refine Kd.R_lit k35 _ 35 ?hg (N := 25) ?hd (xs := ([(⟨1, 0⟩ : S35), (⟨0, 1⟩ : S35), (⟨(-1), 0⟩ : S35), (⟨0, (-1)⟩ : S35)] : List (S35))) (inner := [.int .i64 1, .int .i64 0, .int .i64 0, .int .i64 1, .int .i64 (-1), .int .i64 0, .int .i64 0, .int .i64 (-1)]) (ok := fun _ => True) (okp := fun _ => True) ?hr ?hp (fun _ hk => hk) trivial (Below.refl _ _) (Nat.le_refl _) (by simp) ?_; (case hd => rfl); (case hg => rfl); (case hr => first | (go_simp; done) | (go_simp; rfl)); (case hp => exact (Reps.c2 (show Kd.M k35 _ _ _ (⟨1, 0⟩ : S35) [.int .i64 1, .int .i64 0] from (k35_mkM _ _ _ (⟨1, 0⟩ : S35) )) (Reps.c2 (show Kd.M k35 _ _ _ (⟨0, 1⟩ : S35) [.int .i64 0, .int .i64 1] from (k35_mkM _ _ _ (⟨0, 1⟩ : S35) )) (Reps.c2 (show Kd.M k35 _ _ _ (⟨(-1), 0⟩ : S35) [.int .i64 (-1), .int .i64 0] from (k35_mkM _ _ _ (⟨(-1), 0⟩ : S35) )) (Reps.c2 (show Kd.M k35 _ _ _ (⟨0, (-1)⟩ : S35) [.int .i64 0, .int .i64 (-1)] from (k35_mkM _ _ _ (⟨0, (-1)⟩ : S35) )) (Reps.none _ _)))))); intro v300 w17 ho18 hb hg_ hnew_; clear hg_ hnew_; (first | rw [← Ny299.out] at ho18 | (simp only [Int.reduceToNat] at ho18; rw [← Ny299.out] at ho18)); have n0_ := am (Kd.R_below (by (with_reducible repeat (first | apply Kd.R_alloc | apply Kd.R_drewN | apply Kd.R_drew)); exact HO298.out) hb); have n1_ := am (Kd.R_lower (Kd.R_newB (Kd.R_newB ho18 (g := gb294) (o := .cells #[.int .i64 ((rd_T35 l0 0).f0), .int .i64 ((rd_T35 l0 0).f1)] 35 (0, 0)) (by (with_reducible repeat (first | refine Bk2 ?_ _ | refine Bk3 ?_ | refine Bk1 ?_ _)); exact BK294.out)) (g := gb295) (o := .cells #[.int .i64 x296000_1, .int .i64 x296001_1] 35 (0, 0)) (by (with_reducible repeat (first | refine Bk2 ?_ _ | refine Bk3 ?_ | refine Bk1 ?_ _)); exact BK295.out)) (Bb5 (by repeat (first | (with_reducible first | exact HB.out | apply Bb1 | apply Bb2 | apply Bb3 | refine Bb4 ?_ GE294.out | refine Bb4 ?_ GE295.out) | exact HB.out)))); have n2_ := am (Bk4 (g := gb294) (o := .cells #[.int .i64 ((rd_T35 l0 0).f0), .int .i64 ((rd_T35 l0 0).f1)] 35 (0, 0)) (by (with_reducible repeat (first | refine Bk2 ?_ _ | refine Bk3 ?_ | refine Bk1 ?_ _)); exact BK294.out) hb); have n3_ := am (Bk4 (g := gb295) (o := .cells #[.int .i64 x296000_1, .int .i64 x296001_1] 35 (0, 0)) (by (with_reducible repeat (first | refine Bk2 ?_ _ | refine Bk3 ?_ | refine Bk1 ?_ _)); exact BK295.out) hb); have n4_ := am (Bb6 (by repeat (first | (with_reducible first | exact HB.out | apply Bb1 | apply Bb2 | apply Bb3 | refine Bb4 ?_ GE294.out | refine Bb4 ?_ GE295.out) | exact HB.out)) hb); clear HO298; clear BK294; clear BK295; clear HB; have HO298 := n0_; have HO301 := n1_; have BK294 := n2_; have BK295 := n3_; have HB := n4_; clear n0_ n1_ n2_ n3_ n4_; clear hb ho18))
         have n0_ := am (Kd.R_drew HO298.out)
         have n1_ := am (Kd.R_drew HO301.out)
         have n2_ := am (Bk3 BK294.out)
         have n3_ := am (Bk3 BK295.out)
         have n4_ := am (Bb3 HB.out)
         clear HO298
         clear HO301
         clear BK294
         clear BK295
         clear HB
         have HO298 := n0_
         have HO301 := n1_
         have BK294 := n2_
         have BK295 := n3_
         have HB := n4_
         clear n0_ n1_ n2_ n3_ n4_
         obtain ⟨Ao20, co20, eo20⟩ := Kd.R_slice HO301.out
         (first | subst eo20 | (injection eo20 with f1_ f2_ f3_; have f4_ := f1_.symm; have f5_ := f3_.symm; clear f1_ f2_ f3_; subst f4_; subst f5_))
         have p302 : 0 ≤ (x6_1 : Int) := of_decide_eq_true (by first | (with_reducible assumption) | assumption)
         have q302 : x6_1 < (y299.length : Int) := of_decide_eq_true (by first | (with_reducible assumption) | assumption)
         obtain ⟨ad302, e302, hx302_0, hx302_1⟩ := at_T35 (Kd.R_reads' HO301.out).2.2 x6_1 p302 q302
         cases e302
         replace p302 := eq_true p302
         replace q302 := eq_true q302
         have p303 : 0 ≤ (x6_1 : Int) := of_decide_eq_true (by first | (with_reducible assumption) | assumption)
         have q303 : x6_1 < (y299.length : Int) := of_decide_eq_true (by first | (with_reducible assumption) | assumption)
         obtain ⟨ad303, e303, hx303_0, hx303_1⟩ := at_T35 (Kd.R_reads' HO301.out).2.2 x6_1 p303 q303
         obtain rfl : ad302 = ad303 := (by injection e303)
         replace p303 := eq_true p303
         replace q303 := eq_true q303
         refine start_ (n := 18) (S := fun w' => w'.cell? ⟨gb295, 0, none⟩ = some (.int .i64 x296000_1) ∧ w'.cell? ⟨gb295, 1, none⟩ = some (.int .i64 x296001_1) ∧ w'.cell? (ad302.add ((x6_1).toNat * 2)) = some (.int .i64 ((rd_T35 y299 x6_1).f0)) ∧ w'.cell? ⟨(ad302.add ((x6_1).toNat * 2)).block, (ad302.add ((x6_1).toNat * 2)).off + 1, none⟩ = some (.int .i64 ((rd_T35 y299 x6_1).f1)) ∧ w'.cell? (ad302.add ((x6_1).toNat * 2)) = some (.int .i64 ((rd_T35 y299 x6_1).f0)) ∧ w'.cell? ⟨(ad302.add ((x6_1).toNat * 2)).block, (ad302.add ((x6_1).toNat * 2)).off + 1, none⟩ = some (.int .i64 ((rd_T35 y299 x6_1).f1))) (ds := [17]) spec_l23Word.m0 (by kernel_rfl) rfl rfl ⟨(kc BK295.out 0).trans rfl, (kc BK295.out 1).trans rfl, hx302_0, hx302_1, hx303_0, hx303_1⟩ (fun hHeld => ?_); refine with_tabW spec_l23Word.tab7 spec_l23Word.bits7 (fun HT_ HW_ => ?_)
         generalize w17.drew = w19 at HO298 HO301 BK294 BK295 HB hx302_0 hx302_1 hx303_0 hx303_1 hHeld ⊢
         refine pure_ (i := 0) (N := some 26) (v := ?_) (a' := ?_) spec_l23Word.m2 rfl rfl (any_of HT_.out (by kernel_rfl)) (fun _ _ _ h => h) (Or.inl ⟨by rfl, ?_⟩) ?_ ?_
         rotate_left
         ·intro w'
          go_simp
          with_reducible rfl
         rotate_left
         ·simp only [Act.put, sa, i64_w, i32_w]
          rfl
         refine pure_ (i := 2) (N := some 28) (v := ?_) (a' := ?_) spec_l23Word.m4 rfl rfl (any_of HT_.out (by kernel_rfl)) (fun _ _ _ h => h) (Or.inl ⟨by rfl, ?_⟩) ?_ ?_
         rotate_left
         ·intro w'
          go_simp
          with_reducible rfl
         rotate_left
         ·simp only [Act.put, sa, i64_w, i32_w]
          rfl
         refine pure_ (i := 3) (N := some 29) (v := ?_) (a' := ?_) spec_l23Word.m5 rfl rfl (any_of HT_.out (by kernel_rfl)) (fun _ _ _ h => h) (Or.inl ⟨by rfl, ?_⟩) ?_ ?_
         rotate_left
         ·intro w'
          go_simp
          with_reducible rfl
         rotate_left
         ·simp only [Act.put, sa, i64_w, i32_w]
          rfl
         refine pure_ (i := 4) (N := some 30) (v := ?_) (a' := ?_) spec_l23Word.m6 rfl rfl (any_of HT_.out (by kernel_rfl)) (fun _ _ _ h => h) (Or.inl ⟨by rfl, ?_⟩) ?_ ?_
         rotate_left
         ·intro w'
          go_simp
          with_reducible rfl
         rotate_left
         ·simp only [Act.put, sa, i64_w, i32_w]
          rfl
         refine pure_ (i := 5) (N := some 31) (v := ?_) (a' := ?_) spec_l23Word.m7 rfl rfl (any_of HT_.out (by kernel_rfl)) (fun _ _ _ h => h) (Or.inl ⟨by rfl, ?_⟩) ?_ ?_
         rotate_left
         ·intro w'
          go_simp
          with_reducible rfl
         rotate_left
         ·simp only [Act.put, sa, i64_w, i32_w]
          rfl
         refine pure_ (i := 8) (N := some 34) (v := ?_) (a' := ?_) spec_l23Word.m8 rfl rfl (any_of HT_.out (by kernel_rfl)) (fun _ _ _ h => h) (Or.inl ⟨by rfl, ?_⟩) ?_ ?_
         rotate_left
         ·intro w'
          go_simp
          with_reducible rfl
         rotate_left
         ·simp only [Act.put, sa, i64_w, i32_w]
          rfl
         refine pure_ (i := 10) (N := some 36) (v := ?_) (a' := ?_) spec_l23Word.m9 rfl rfl (any_of HT_.out (by kernel_rfl)) (fun _ _ _ h => h) (Or.inl ⟨by rfl, ?_⟩) ?_ ?_
         rotate_left
         ·intro w'
          go_simp
          with_reducible rfl
         rotate_left
         ·simp only [Act.put, sa, i64_w, i32_w]
          rfl
         refine pure_ (i := 11) (N := some 37) (v := ?_) (a' := ?_) spec_l23Word.m10 rfl rfl (any_of HT_.out (by kernel_rfl)) (fun _ _ _ h => h) (Or.inl ⟨by rfl, ?_⟩) ?_ ?_
         rotate_left
         ·intro w'
          go_simp
          with_reducible rfl
         rotate_left
         ·simp only [Act.put, sa, i64_w, i32_w]
          rfl
         refine pure_ (i := 12) (N := some 38) (v := ?_) (a' := ?_) spec_l23Word.m11 rfl rfl (any_of HT_.out (by kernel_rfl)) (fun _ _ _ h => h) (Or.inl ⟨by rfl, ?_⟩) ?_ ?_
         rotate_left
         ·intro w'
          go_simp
          with_reducible rfl
         rotate_left
         ·simp only [Act.put, sa, i64_w, i32_w]
          rfl
         refine pure_ (i := 13) (N := some 39) (v := ?_) (a' := ?_) spec_l23Word.m12 rfl rfl (any_of HT_.out (by kernel_rfl)) (fun _ _ _ h => h) (Or.inl ⟨by rfl, ?_⟩) ?_ ?_
         rotate_left
         ·intro w'
          go_simp
          with_reducible rfl
         rotate_left
         ·simp only [Act.put, sa, i64_w, i32_w]
          rfl
         refine take_ (i := 1) (N := some 27) (v := ?_) (a' := ?_) spec_l23Word.m20 rfl rfl (take_ofW HT_.out HW_.out (by kernel_rfl)) (fun _ _ _ h => h) (Or.inl ⟨by rfl, ?_⟩) hHeld ?_ ?_
         rotate_left
         ·rintro w' ⟨s0, s1, s2, s3, s4, s5⟩
          go_simp
          with_reducible rfl
         rotate_left
         ·simp only [Act.put, sa, i64_w, i32_w]
          rfl
         refine take_ (i := 6) (N := some 32) (v := ?_) (a' := ?_) spec_l23Word.m21 rfl rfl (take_ofW HT_.out HW_.out (by kernel_rfl)) (fun _ _ _ h => h) (Or.inl ⟨by rfl, ?_⟩) hHeld ?_ ?_
         rotate_left
         ·rintro w' ⟨s0, s1, s2, s3, s4, s5⟩
          go_simp
          with_reducible rfl
         rotate_left
         ·simp only [Act.put, sa, i64_w, i32_w]
          rfl
         refine pure_ (i := 7) (N := some 33) (v := ?_) (a' := ?_) spec_l23Word.m23 rfl rfl (any_of HT_.out (by kernel_rfl)) (fun _ _ _ h => h) (Or.inl ⟨by rfl, ?_⟩) ?_ ?_
         rotate_left
         ·intro w'
          go_simp
          with_reducible rfl
         rotate_left
         ·simp only [Act.put, sa, i64_w, i32_w]
          rfl
         refine take_ (i := 9) (N := some 35) (v := ?_) (a' := ?_) spec_l23Word.m29 rfl rfl (take_ofW HT_.out HW_.out (by kernel_rfl)) (fun _ _ _ h => h) (Or.inl ⟨by rfl, ?_⟩) hHeld ?_ ?_
         rotate_left
         ·rintro w' ⟨s0, s1, s2, s3, s4, s5⟩
          go_simp
          with_reducible rfl
         rotate_left
         ·simp only [Act.put, sa, i64_w, i32_w]
          rfl
         refine take_ (i := 14) (N := some 40) (v := ?_) (a' := ?_) spec_l23Word.m30 rfl rfl (take_ofW HT_.out HW_.out (by kernel_rfl)) (fun _ _ _ h => h) (Or.inl ⟨by rfl, ?_⟩) hHeld ?_ ?_
         rotate_left
         ·rintro w' ⟨s0, s1, s2, s3, s4, s5⟩
          go_simp
          with_reducible rfl
         rotate_left
         ·simp only [Act.put, sa, i64_w, i32_w]
          rfl
         refine pure_ (i := 15) (N := some 41) (v := ?_) (a' := ?_) spec_l23Word.m31 rfl rfl (any_of HT_.out (by kernel_rfl)) (fun _ _ _ h => h) (Or.inl ⟨by rfl, ?_⟩) ?_ ?_
         rotate_left
         ·intro w'
          go_simp
          with_reducible rfl
         rotate_left
         ·simp only [Act.put, sa, i64_w, i32_w]
          rfl
         refine pure_ (i := 16) (N := some 42) (v := ?_) (a' := ?_) spec_l23Word.m32 rfl rfl (any_of HT_.out (by kernel_rfl)) (fun _ _ _ h => h) (Or.inl ⟨by rfl, ?_⟩) ?_ ?_
         rotate_left
         ·intro w'
          go_simp
          with_reducible rfl
         rotate_left
         ·simp only [Act.put, sa, i64_w, i32_w]
          rfl
         refine last_ (i := 17) (N := none) spec_l23Word.m33 rfl rfl (one_of HT_.out (by kernel_rfl)) (by decide) (fun K hK => ?_)
         have hs21 : w19.cell? ⟨gb295, 0, none⟩ = some (.int .i64 x296000_1) := (kc BK295.out 0).trans rfl
         have hfs21 := kf BK295.out 0
         have hns21_0 := NB294_295.out
         have hms21_0 := NB295_294.out
         have hs22 : w19.cell? ⟨gb295, 1, none⟩ = some (.int .i64 x296001_1) := (kc BK295.out 1).trans rfl
         have hfs22 := kf BK295.out 1
         have hns22_0 := NB294_295.out
         have hms22_0 := NB295_294.out
         refine skip_ (w1 := ?_) (by rfl) rfl ?_ ?_
         rotate_left
         ·go_simp
          rfl
         refine hK.out _ _ ?_
         clear hK K
         refine done_ (done_of HT_.out (by kernel_rfl)) ?_
         have hnb23 := NB295_294.out
         have hnc23 := NB294_295.out
         have hcz24_0 : w19.cell? ⟨gb295, 0, none⟩ = some (.int .i64 x296000_1) := (kc BK295.out 0).trans rfl
         have hcz24_1 : w19.cell? ⟨gb295, 1, none⟩ = some (.int .i64 x296001_1) := (kc BK295.out 1).trans rfl
         have hfz24_0 := kf BK295.out 0
         have hfz24_1 := kf BK295.out 1
         have hcz25_0 : w19.cell? ⟨gb294, 0, none⟩ = some (.int .i64 ((rd_T35 l0 0).f0)) := (kc BK294.out 0).trans rfl
         have hcz25_1 : w19.cell? ⟨gb294, 1, none⟩ = some (.int .i64 ((rd_T35 l0 0).f1)) := (kc BK294.out 1).trans rfl
         have hfz25_0 := kf BK294.out 0
         have hfz25_1 := kf BK294.out 1
         have hcv26 := own_string (P := Try.prog) Try.underlying53 Try.underlying5 Try.underlying9 (Kd.own_of_R HO298.out)
         have hcv26z := fun (u1 u2 : Value) => own_string (P := Try.prog) Try.underlying53 Try.underlying5 Try.underlying9 (Kd.own_of_R (Kd.R_set (Kd.R_set HO298.out BK295.out (by intro q hq; rcases List.mem_cons.1 hq with rfl | hq <;> first | decide | exact absurd hq List.not_mem_nil | cases hq) 0 u1) (blk_put BK295.out 0 u1 rfl) (by intro q hq; rcases List.mem_cons.1 hq with rfl | hq <;> first | decide | exact absurd hq List.not_mem_nil | cases hq) 1 u2))
         try go_wp2
         go_ret
         exact ⟨by first | rfl | (simp [errW_none, errW_some] <;> rfl) | (simp [*, errW_none, errW_some] <;> rfl), by repeat (first | (with_reducible first | exact HB.out | apply Bb1 | apply Bb2 | apply Bb3 | refine Bb4 ?_ GE294.out | refine Bb4 ?_ GE295.out) | exact HB.out)⟩
        ·rw [if_neg c15] at H
         have c15b0 : ((wrap64 (x296000_1 + ((rd_T35 y299 x6_1).f0))) == ((rd_T35 l0 0).f0) && ((wrap64 (x296001_1 + ((rd_T35 y299 x6_1).f1))) == ((rd_T35 l0 0).f1))) = false := by simpa using c15
         (try (have c15b1 : decide ((wrap64 (x296000_1 + ((rd_T35 y299 x6_1).f0))) = ((rd_T35 l0 0).f0) && ((wrap64 (x296001_1 + ((rd_T35 y299 x6_1).f1))) == ((rd_T35 l0 0).f1))) = false := by simpa using c15))
         (try (have c15b2 : ((wrap64 (x296000_1 + ((rd_T35 y299 x6_1).f0))) == ((rd_T35 l0 0).f0) && ((wrap64 (x296001_1 + ((rd_T35 y299 x6_1).f1))) == ((rd_T35 l0 0).f1))) = false := by simpa using c15))
         (try (have c15b3 : ¬ ((wrap64 (x296000_1 + ((rd_T35 y299 x6_1).f0))) = ((rd_T35 l0 0).f0) && ((wrap64 (x296001_1 + ((rd_T35 y299 x6_1).f1))) == ((rd_T35 l0 0).f1))) := by simpa using c15))
         clear c15
         obtain ⟨y304, hy304⟩ : ∃ y_ : List (S35), y_ = (([(⟨wrap64 (x296000_1 + ((rd_T35 y299 x6_1).f0)), wrap64 ((wrap64 (x296001_1 + ((rd_T35 y299 x6_1).f1))) - 1)⟩ : S35), (⟨wrap64 (x296000_1 + ((rd_T35 y299 x6_1).f0)), wrap64 (x296001_1 + ((rd_T35 y299 x6_1).f1))⟩ : S35), (⟨wrap64 ((wrap64 (x296000_1 + ((rd_T35 y299 x6_1).f0))) - 1), wrap64 (x296001_1 + ((rd_T35 y299 x6_1).f1))⟩ : S35), (⟨wrap64 ((wrap64 (x296000_1 + ((rd_T35 y299 x6_1).f0))) - 1), wrap64 ((wrap64 (x296001_1 + ((rd_T35 y299 x6_1).f1))) - 1)⟩ : S35)] : List (S35))) := ⟨_, rfl⟩
         replace H : (if x6_1 < (y304.length : Int) then (if 0 ≤ (Int.tmod (wrap64 (x6_1 + 1)) 4) then (if (Int.tmod (wrap64 (x6_1 + 1)) 4) < (y304.length : Int) then ((spec_l02Index.f k1 l0 ((rd_T35 y304 x6_1).f0) ((rd_T35 y304 x6_1).f1)).bind fun t311 => (if t311 ≥ 0 then (spec_l23Word.l0 k1 l0 y296 (Int.tmod (wrap64 (x6_1 + 3)) 4) ((rd_T35 l0 0).f0) ((rd_T35 l0 0).f1) (wrap64 (x296000_1 + ((rd_T35 y299 x6_1).f0))) (wrap64 (x296001_1 + ((rd_T35 y299 x6_1).f1)))) else ((spec_l02Index.f k1 l0 ((rd_T35 y304 (Int.tmod (wrap64 (x6_1 + 1)) 4)).f0) ((rd_T35 y304 (Int.tmod (wrap64 (x6_1 + 1)) 4)).f1)).bind fun t312 => (if t312 < 0 then (spec_l23Word.l0 k1 l0 y296 (Int.tmod (wrap64 (x6_1 + 1)) 4) ((rd_T35 l0 0).f0) ((rd_T35 l0 0).f1) (wrap64 (x296000_1 + ((rd_T35 y299 x6_1).f0))) (wrap64 (x296001_1 + ((rd_T35 y299 x6_1).f1)))) else (spec_l23Word.l0 k1 l0 y296 x6_1 ((rd_T35 l0 0).f0) ((rd_T35 l0 0).f1) (wrap64 (x296000_1 + ((rd_T35 y299 x6_1).f0))) (wrap64 (x296001_1 + ((rd_T35 y299 x6_1).f1)))))))) else (none)) else (none)) else (none)) = some r := by first | (rw [hy304]; with_reducible exact H) | (have H2_ := (Option.bind_some _ _).symm.trans H; rw [hy304]; with_reducible exact H2_) | (have H2_ := (Option.bind_some _ _).symm.trans H; with_reducible exact H2_) | with_reducible exact H | (rw [hy304]; exact H) | exact H
         have Ny304 := am hy304
         clear hy304
         by_cases c27 : x6_1 < (y304.length : Int)
         ·rw [if_pos c27] at H
          have c27b0 : decide (x6_1 < (y304.length : Int)) = true := decide_eq_true c27
          clear c27
          obtain ⟨ji28, hji28⟩ : ∃ j_ : Int, (Int.tmod (wrap64 (x6_1 + 1)) 4) = j_ := ⟨_, rfl⟩
          replace H : (if 0 ≤ (ji28) then (if (ji28) < (y304.length : Int) then ((spec_l02Index.f k1 l0 ((rd_T35 y304 x6_1).f0) ((rd_T35 y304 x6_1).f1)).bind fun t311 => (if t311 ≥ 0 then (spec_l23Word.l0 k1 l0 y296 (Int.tmod (wrap64 (x6_1 + 3)) 4) ((rd_T35 l0 0).f0) ((rd_T35 l0 0).f1) (wrap64 (x296000_1 + ((rd_T35 y299 x6_1).f0))) (wrap64 (x296001_1 + ((rd_T35 y299 x6_1).f1)))) else ((spec_l02Index.f k1 l0 ((rd_T35 y304 (ji28)).f0) ((rd_T35 y304 (ji28)).f1)).bind fun t312 => (if t312 < 0 then (spec_l23Word.l0 k1 l0 y296 ji28 ((rd_T35 l0 0).f0) ((rd_T35 l0 0).f1) (wrap64 (x296000_1 + ((rd_T35 y299 x6_1).f0))) (wrap64 (x296001_1 + ((rd_T35 y299 x6_1).f1)))) else (spec_l23Word.l0 k1 l0 y296 x6_1 ((rd_T35 l0 0).f0) ((rd_T35 l0 0).f1) (wrap64 (x296000_1 + ((rd_T35 y299 x6_1).f0))) (wrap64 (x296001_1 + ((rd_T35 y299 x6_1).f1)))))))) else (none)) else (none)) = some r := by first | (rw [hji28] at H; exact H) | (simp only [hji28] at H ⊢; exact H)
          by_cases c29 : 0 ≤ (ji28)
          ·rw [if_pos c29] at H
           have c29b0 : decide (0 ≤ (ji28)) = true := decide_eq_true c29
           clear c29
           by_cases c30 : (ji28) < (y304.length : Int)
           ·rw [if_pos c30] at H
            have c30b0 : decide ((ji28) < (y304.length : Int)) = true := decide_eq_true c30
            clear c30
            replace H := ob H
            obtain ⟨t311, A310, H⟩ := H
            replace H : (if t311 ≥ 0 then (spec_l23Word.l0 k1 l0 y296 (Int.tmod (wrap64 (x6_1 + 3)) 4) ((rd_T35 l0 0).f0) ((rd_T35 l0 0).f1) (wrap64 (x296000_1 + ((rd_T35 y299 x6_1).f0))) (wrap64 (x296001_1 + ((rd_T35 y299 x6_1).f1)))) else ((spec_l02Index.f k1 l0 ((rd_T35 y304 (ji28)).f0) ((rd_T35 y304 (ji28)).f1)).bind fun t312 => (if t312 < 0 then (spec_l23Word.l0 k1 l0 y296 ji28 ((rd_T35 l0 0).f0) ((rd_T35 l0 0).f1) (wrap64 (x296000_1 + ((rd_T35 y299 x6_1).f0))) (wrap64 (x296001_1 + ((rd_T35 y299 x6_1).f1)))) else (spec_l23Word.l0 k1 l0 y296 x6_1 ((rd_T35 l0 0).f0) ((rd_T35 l0 0).f1) (wrap64 (x296000_1 + ((rd_T35 y299 x6_1).f0))) (wrap64 (x296001_1 + ((rd_T35 y299 x6_1).f1))))))) = some r := H
            have A31 := am A310
            clear A310
            by_cases c32 : t311 ≥ 0
            ·rw [if_pos c32] at H
             have c32b0 : decide (0 ≤ t311) = true := decide_eq_true c32
             clear c32
             have H' := am H
             clear H
             have p12 : 0 ≤ (x6_1 : Int) := of_decide_eq_true (by first | (with_reducible assumption) | assumption)
             have q12 : x6_1 < (4 : Int) := of_decide_eq_true (by first | (with_reducible assumption) | assumption)
             have hx12 := bt_at (⟨#[114, 100, 108, 117]⟩ : ByteArray) x6_1
             replace p12 := eq_true p12
             replace q12 := eq_true q12
             try go_wp2_with (first | ((with_reducible refine gate_builtin (b := .append) (xs := #[.tmp 16, .tmp 19]) rfl ?_); at_builtin; refine Kd.R_append (Kd.int .u8) (w0 := w) w.heap.size rfl (.tmp 16) (.tmp 19) 53 5 (.int .u8 0) 1 rfl Try.underlying53 info5 rfl (by decide) (by omega) u3 x3_1 (bt (⟨#[114, 100, 108, 117]⟩ : ByteArray) x6_1) [.int .u8 (bt (⟨#[114, 100, 108, 117]⟩ : ByteArray) x6_1)] (fun _ => True) (fun _ => False) rfl rfl ?aP (fun _ hk => hk.elim) ?aF ?aO ?aB ?aS ?aL ?_; (case aP => exact rfl); (case aB => exact (by repeat (first | (with_reducible first | exact HB.out | apply Bb1 | apply Bb2 | apply Bb3 | refine Bb4 ?_ GE294.out | refine Bb4 ?_ GE295.out) | exact HB.out))); (case aF => exact (fun _ _ => trivial)); (case aO => exact (by (with_reducible repeat (first | apply Kd.R_alloc | apply Kd.R_drewN | apply Kd.R_drew)); exact HO_3.out)); (case aS => exact (Bb5 (by repeat (first | (with_reducible first | exact HB.out | apply Bb1 | apply Bb2 | apply Bb3 | refine Bb4 ?_ GE294.out | refine Bb4 ?_ GE295.out) | exact HB.out)))); (case aL => first | (have := LMc13.out; omega) | (have h_ := Nat.le_of_lt LMc13.out; exact h_)); intro v297 w33 ho hb hg hat; rw [← Ny296.out] at ho; have n0_ := am (blk_grown (g := gb294) (o := .cells #[.int .i64 ((rd_T35 l0 0).f0), .int .i64 ((rd_T35 l0 0).f1)] 35 (0, 0)) (by (with_reducible repeat (first | refine Bk2 ?_ _ | refine Bk3 ?_ | refine Bk1 ?_ _)); exact BK294.out) hg (Kd.R_ne HO_3.out BK294.out (by decide))); have n1_ := am (blk_grown (g := gb295) (o := .cells #[.int .i64 x296000_1, .int .i64 x296001_1] 35 (0, 0)) (by (with_reducible repeat (first | refine Bk2 ?_ _ | refine Bk3 ?_ | refine Bk1 ?_ _)); exact BK295.out) hg (Kd.R_ne HO_3.out BK295.out (by decide))); have n2_ := am (hb); have n3_ := am (ho); clear BK294; clear BK295; clear HB; clear HO_3; have BK294 := n0_; have BK295 := n1_; have HB := n2_; have HO298 := n3_; clear n0_ n1_ n2_ n3_; clear ho hb hg hat) | ((with_reducible refine gate_dst (N := 25) rfl ?_); refine Kd.R_lit k35 _ 35 ?hg (N := 25) ?hd (xs := ([(⟨1, 0⟩ : S35), (⟨0, 1⟩ : S35), (⟨(-1), 0⟩ : S35), (⟨0, (-1)⟩ : S35)] : List (S35))) (inner := [.int .i64 1, .int .i64 0, .int .i64 0, .int .i64 1, .int .i64 (-1), .int .i64 0, .int .i64 0, .int .i64 (-1)]) (ok := fun _ => True) (okp := fun _ => True) ?hr ?hp (fun _ hk => hk) trivial (Below.refl _ _) (Nat.le_refl _) (by simp) ?_; (case hd => rfl); (case hg => rfl); (case hr => first | (go_simp; done) | (go_simp; rfl)); (case hp => exact (Reps.c2 (show Kd.M k35 _ _ _ (⟨1, 0⟩ : S35) [.int .i64 1, .int .i64 0] from (k35_mkM _ _ _ (⟨1, 0⟩ : S35) )) (Reps.c2 (show Kd.M k35 _ _ _ (⟨0, 1⟩ : S35) [.int .i64 0, .int .i64 1] from (k35_mkM _ _ _ (⟨0, 1⟩ : S35) )) (Reps.c2 (show Kd.M k35 _ _ _ (⟨(-1), 0⟩ : S35) [.int .i64 (-1), .int .i64 0] from (k35_mkM _ _ _ (⟨(-1), 0⟩ : S35) )) (Reps.c2 (show Kd.M k35 _ _ _ (⟨0, (-1)⟩ : S35) [.int .i64 0, .int .i64 (-1)] from (k35_mkM _ _ _ (⟨0, (-1)⟩ : S35) )) (Reps.none _ _)))))); intro v300 w34 ho35 hb hg_ hnew_; clear hg_ hnew_; (first | rw [← Ny299.out] at ho35 | (simp only [Int.reduceToNat] at ho35; rw [← Ny299.out] at ho35)); have n0_ := am (Kd.R_below (by (with_reducible repeat (first | apply Kd.R_alloc | apply Kd.R_drewN | apply Kd.R_drew)); exact HO298.out) hb); have n1_ := am (Kd.R_lower (Kd.R_newB (Kd.R_newB ho35 (g := gb294) (o := .cells #[.int .i64 ((rd_T35 l0 0).f0), .int .i64 ((rd_T35 l0 0).f1)] 35 (0, 0)) (by (with_reducible repeat (first | refine Bk2 ?_ _ | refine Bk3 ?_ | refine Bk1 ?_ _)); exact BK294.out)) (g := gb295) (o := .cells #[.int .i64 x296000_1, .int .i64 x296001_1] 35 (0, 0)) (by (with_reducible repeat (first | refine Bk2 ?_ _ | refine Bk3 ?_ | refine Bk1 ?_ _)); exact BK295.out)) (Bb5 (by repeat (first | (with_reducible first | exact HB.out | apply Bb1 | apply Bb2 | apply Bb3 | refine Bb4 ?_ GE294.out | refine Bb4 ?_ GE295.out) | exact HB.out)))); have n2_ := am (Bk4 (g := gb294) (o := .cells #[.int .i64 ((rd_T35 l0 0).f0), .int .i64 ((rd_T35 l0 0).f1)] 35 (0, 0)) (by (with_reducible repeat (first | refine Bk2 ?_ _ | refine Bk3 ?_ | refine Bk1 ?_ _)); exact BK294.out) hb); have n3_ := am (Bk4 (g := gb295) (o := .cells #[.int .i64 x296000_1, .int .i64 x296001_1] 35 (0, 0)) (by (with_reducible repeat (first | refine Bk2 ?_ _ | refine Bk3 ?_ | refine Bk1 ?_ _)); exact BK295.out) hb); have n4_ := am (Bb6 (by repeat (first | (with_reducible first | exact HB.out | apply Bb1 | apply Bb2 | apply Bb3 | refine Bb4 ?_ GE294.out | refine Bb4 ?_ GE295.out) | exact HB.out)) hb); clear HO298; clear BK294; clear BK295; clear HB; have HO298 := n0_; have HO301 := n1_; have BK294 := n2_; have BK295 := n3_; have HB := n4_; clear n0_ n1_ n2_ n3_ n4_; clear hb ho35))
             have n0_ := am (Kd.R_drew HO298.out)
             have n1_ := am (Kd.R_drew HO301.out)
             have n2_ := am (Bk3 BK294.out)
             have n3_ := am (Bk3 BK295.out)
             have n4_ := am (Bb3 HB.out)
             clear HO298
             clear HO301
             clear BK294
             clear BK295
             clear HB
             have HO298 := n0_
             have HO301 := n1_
             have BK294 := n2_
             have BK295 := n3_
             have HB := n4_
             clear n0_ n1_ n2_ n3_ n4_
             obtain ⟨Ao37, co37, eo37⟩ := Kd.R_slice HO301.out
             (first | subst eo37 | (injection eo37 with f1_ f2_ f3_; have f4_ := f1_.symm; have f5_ := f3_.symm; clear f1_ f2_ f3_; subst f4_; subst f5_))
             have p302 : 0 ≤ (x6_1 : Int) := of_decide_eq_true (by first | (with_reducible assumption) | assumption)
             have q302 : x6_1 < (y299.length : Int) := of_decide_eq_true (by first | (with_reducible assumption) | assumption)
             obtain ⟨ad302, e302, hx302_0, hx302_1⟩ := at_T35 (Kd.R_reads' HO301.out).2.2 x6_1 p302 q302
             cases e302
             replace p302 := eq_true p302
             replace q302 := eq_true q302
             have p303 : 0 ≤ (x6_1 : Int) := of_decide_eq_true (by first | (with_reducible assumption) | assumption)
             have q303 : x6_1 < (y299.length : Int) := of_decide_eq_true (by first | (with_reducible assumption) | assumption)
             obtain ⟨ad303, e303, hx303_0, hx303_1⟩ := at_T35 (Kd.R_reads' HO301.out).2.2 x6_1 p303 q303
             obtain rfl : ad302 = ad303 := (by injection e303)
             replace p303 := eq_true p303
             replace q303 := eq_true q303
             refine start_ (n := 18) (S := fun w' => w'.cell? ⟨gb295, 0, none⟩ = some (.int .i64 x296000_1) ∧ w'.cell? ⟨gb295, 1, none⟩ = some (.int .i64 x296001_1) ∧ w'.cell? (ad302.add ((x6_1).toNat * 2)) = some (.int .i64 ((rd_T35 y299 x6_1).f0)) ∧ w'.cell? ⟨(ad302.add ((x6_1).toNat * 2)).block, (ad302.add ((x6_1).toNat * 2)).off + 1, none⟩ = some (.int .i64 ((rd_T35 y299 x6_1).f1)) ∧ w'.cell? (ad302.add ((x6_1).toNat * 2)) = some (.int .i64 ((rd_T35 y299 x6_1).f0)) ∧ w'.cell? ⟨(ad302.add ((x6_1).toNat * 2)).block, (ad302.add ((x6_1).toNat * 2)).off + 1, none⟩ = some (.int .i64 ((rd_T35 y299 x6_1).f1))) (ds := [17]) spec_l23Word.m0 (by kernel_rfl) rfl rfl ⟨(kc BK295.out 0).trans rfl, (kc BK295.out 1).trans rfl, hx302_0, hx302_1, hx303_0, hx303_1⟩ (fun hHeld => ?_); refine with_tabW spec_l23Word.tab7 spec_l23Word.bits7 (fun HT_ HW_ => ?_)
             generalize w34.drew = w36 at HO298 HO301 BK294 BK295 HB hx302_0 hx302_1 hx303_0 hx303_1 hHeld ⊢
             refine pure_ (i := 0) (N := some 26) (v := ?_) (a' := ?_) spec_l23Word.m2 rfl rfl (any_of HT_.out (by kernel_rfl)) (fun _ _ _ h => h) (Or.inl ⟨by rfl, ?_⟩) ?_ ?_
             rotate_left
             ·intro w'
              go_simp
              with_reducible rfl
             rotate_left
             ·simp only [Act.put, sa, i64_w, i32_w]
              rfl
             refine pure_ (i := 2) (N := some 28) (v := ?_) (a' := ?_) spec_l23Word.m4 rfl rfl (any_of HT_.out (by kernel_rfl)) (fun _ _ _ h => h) (Or.inl ⟨by rfl, ?_⟩) ?_ ?_
             rotate_left
             ·intro w'
              go_simp
              with_reducible rfl
             rotate_left
             ·simp only [Act.put, sa, i64_w, i32_w]
              rfl
             refine pure_ (i := 3) (N := some 29) (v := ?_) (a' := ?_) spec_l23Word.m5 rfl rfl (any_of HT_.out (by kernel_rfl)) (fun _ _ _ h => h) (Or.inl ⟨by rfl, ?_⟩) ?_ ?_
             rotate_left
             ·intro w'
              go_simp
              with_reducible rfl
             rotate_left
             ·simp only [Act.put, sa, i64_w, i32_w]
              rfl
             refine pure_ (i := 4) (N := some 30) (v := ?_) (a' := ?_) spec_l23Word.m6 rfl rfl (any_of HT_.out (by kernel_rfl)) (fun _ _ _ h => h) (Or.inl ⟨by rfl, ?_⟩) ?_ ?_
             rotate_left
             ·intro w'
              go_simp
              with_reducible rfl
             rotate_left
             ·simp only [Act.put, sa, i64_w, i32_w]
              rfl
             refine pure_ (i := 5) (N := some 31) (v := ?_) (a' := ?_) spec_l23Word.m7 rfl rfl (any_of HT_.out (by kernel_rfl)) (fun _ _ _ h => h) (Or.inl ⟨by rfl, ?_⟩) ?_ ?_
             rotate_left
             ·intro w'
              go_simp
              with_reducible rfl
             rotate_left
             ·simp only [Act.put, sa, i64_w, i32_w]
              rfl
             refine pure_ (i := 8) (N := some 34) (v := ?_) (a' := ?_) spec_l23Word.m8 rfl rfl (any_of HT_.out (by kernel_rfl)) (fun _ _ _ h => h) (Or.inl ⟨by rfl, ?_⟩) ?_ ?_
             rotate_left
             ·intro w'
              go_simp
              with_reducible rfl
             rotate_left
             ·simp only [Act.put, sa, i64_w, i32_w]
              rfl
             refine pure_ (i := 10) (N := some 36) (v := ?_) (a' := ?_) spec_l23Word.m9 rfl rfl (any_of HT_.out (by kernel_rfl)) (fun _ _ _ h => h) (Or.inl ⟨by rfl, ?_⟩) ?_ ?_
             rotate_left
             ·intro w'
              go_simp
              with_reducible rfl
             rotate_left
             ·simp only [Act.put, sa, i64_w, i32_w]
              rfl
             refine pure_ (i := 11) (N := some 37) (v := ?_) (a' := ?_) spec_l23Word.m10 rfl rfl (any_of HT_.out (by kernel_rfl)) (fun _ _ _ h => h) (Or.inl ⟨by rfl, ?_⟩) ?_ ?_
             rotate_left
             ·intro w'
              go_simp
              with_reducible rfl
             rotate_left
             ·simp only [Act.put, sa, i64_w, i32_w]
              rfl
             refine pure_ (i := 12) (N := some 38) (v := ?_) (a' := ?_) spec_l23Word.m11 rfl rfl (any_of HT_.out (by kernel_rfl)) (fun _ _ _ h => h) (Or.inl ⟨by rfl, ?_⟩) ?_ ?_
             rotate_left
             ·intro w'
              go_simp
              with_reducible rfl
             rotate_left
             ·simp only [Act.put, sa, i64_w, i32_w]
              rfl
             refine pure_ (i := 13) (N := some 39) (v := ?_) (a' := ?_) spec_l23Word.m12 rfl rfl (any_of HT_.out (by kernel_rfl)) (fun _ _ _ h => h) (Or.inl ⟨by rfl, ?_⟩) ?_ ?_
             rotate_left
             ·intro w'
              go_simp
              with_reducible rfl
             rotate_left
             ·simp only [Act.put, sa, i64_w, i32_w]
              rfl
             refine take_ (i := 1) (N := some 27) (v := ?_) (a' := ?_) spec_l23Word.m20 rfl rfl (take_ofW HT_.out HW_.out (by kernel_rfl)) (fun _ _ _ h => h) (Or.inl ⟨by rfl, ?_⟩) hHeld ?_ ?_
             rotate_left
             ·rintro w' ⟨s0, s1, s2, s3, s4, s5⟩
              go_simp
              with_reducible rfl
             rotate_left
             ·simp only [Act.put, sa, i64_w, i32_w]
              rfl
             refine take_ (i := 6) (N := some 32) (v := ?_) (a' := ?_) spec_l23Word.m21 rfl rfl (take_ofW HT_.out HW_.out (by kernel_rfl)) (fun _ _ _ h => h) (Or.inl ⟨by rfl, ?_⟩) hHeld ?_ ?_
             rotate_left
             ·rintro w' ⟨s0, s1, s2, s3, s4, s5⟩
              go_simp
              with_reducible rfl
             rotate_left
             ·simp only [Act.put, sa, i64_w, i32_w]
              rfl
             refine pure_ (i := 7) (N := some 33) (v := ?_) (a' := ?_) spec_l23Word.m23 rfl rfl (any_of HT_.out (by kernel_rfl)) (fun _ _ _ h => h) (Or.inl ⟨by rfl, ?_⟩) ?_ ?_
             rotate_left
             ·intro w'
              go_simp
              with_reducible rfl
             rotate_left
             ·simp only [Act.put, sa, i64_w, i32_w]
              rfl
             refine take_ (i := 9) (N := some 35) (v := ?_) (a' := ?_) spec_l23Word.m29 rfl rfl (take_ofW HT_.out HW_.out (by kernel_rfl)) (fun _ _ _ h => h) (Or.inl ⟨by rfl, ?_⟩) hHeld ?_ ?_
             rotate_left
             ·rintro w' ⟨s0, s1, s2, s3, s4, s5⟩
              go_simp
              with_reducible rfl
             rotate_left
             ·simp only [Act.put, sa, i64_w, i32_w]
              rfl
             refine take_ (i := 14) (N := some 40) (v := ?_) (a' := ?_) spec_l23Word.m30 rfl rfl (take_ofW HT_.out HW_.out (by kernel_rfl)) (fun _ _ _ h => h) (Or.inl ⟨by rfl, ?_⟩) hHeld ?_ ?_
             rotate_left
             ·rintro w' ⟨s0, s1, s2, s3, s4, s5⟩
              go_simp
              with_reducible rfl
             rotate_left
             ·simp only [Act.put, sa, i64_w, i32_w]
              rfl
             refine pure_ (i := 15) (N := some 41) (v := ?_) (a' := ?_) spec_l23Word.m31 rfl rfl (any_of HT_.out (by kernel_rfl)) (fun _ _ _ h => h) (Or.inl ⟨by rfl, ?_⟩) ?_ ?_
             rotate_left
             ·intro w'
              go_simp
              with_reducible rfl
             rotate_left
             ·simp only [Act.put, sa, i64_w, i32_w]
              rfl
             refine pure_ (i := 16) (N := some 42) (v := ?_) (a' := ?_) spec_l23Word.m32 rfl rfl (any_of HT_.out (by kernel_rfl)) (fun _ _ _ h => h) (Or.inl ⟨by rfl, ?_⟩) ?_ ?_
             rotate_left
             ·intro w'
              go_simp
              with_reducible rfl
             rotate_left
             ·simp only [Act.put, sa, i64_w, i32_w]
              rfl
             refine last_ (i := 17) (N := none) spec_l23Word.m33 rfl rfl (one_of HT_.out (by kernel_rfl)) (by decide) (fun K hK => ?_)
             have hs38 : w36.cell? ⟨gb295, 0, none⟩ = some (.int .i64 x296000_1) := (kc BK295.out 0).trans rfl
             have hfs38 := kf BK295.out 0
             have hns38_0 := NB294_295.out
             have hms38_0 := NB295_294.out
             have hs39 : w36.cell? ⟨gb295, 1, none⟩ = some (.int .i64 x296001_1) := (kc BK295.out 1).trans rfl
             have hfs39 := kf BK295.out 1
             have hns39_0 := NB294_295.out
             have hms39_0 := NB295_294.out
             refine skip_ (w1 := ?_) (by rfl) rfl ?_ ?_
             rotate_left
             ·go_simp
              rfl
             refine hK.out _ _ ?_
             clear hK K
             refine done_ (done_of HT_.out (by kernel_rfl)) ?_
             have hnb40 := NB295_294.out
             have hnc40 := NB294_295.out
             have hcz41_0 : w36.cell? ⟨gb295, 0, none⟩ = some (.int .i64 x296000_1) := (kc BK295.out 0).trans rfl
             have hcz41_1 : w36.cell? ⟨gb295, 1, none⟩ = some (.int .i64 x296001_1) := (kc BK295.out 1).trans rfl
             have hfz41_0 := kf BK295.out 0
             have hfz41_1 := kf BK295.out 1
             have hcz42_0 : w36.cell? ⟨gb294, 0, none⟩ = some (.int .i64 ((rd_T35 l0 0).f0)) := (kc BK294.out 0).trans rfl
             have hcz42_1 : w36.cell? ⟨gb294, 1, none⟩ = some (.int .i64 ((rd_T35 l0 0).f1)) := (kc BK294.out 1).trans rfl
             have hfz42_0 := kf BK294.out 0
             have hfz42_1 := kf BK294.out 1
             try go_wp2_with (first | ((with_reducible refine gate_dst (N := 68) rfl ?_); refine Kd.R_lit k35 _ 35 ?hg (N := 68) ?hd (xs := ([(⟨wrap64 (x296000_1 + ((rd_T35 y299 x6_1).f0)), wrap64 ((wrap64 (x296001_1 + ((rd_T35 y299 x6_1).f1))) - 1)⟩ : S35), (⟨wrap64 (x296000_1 + ((rd_T35 y299 x6_1).f0)), wrap64 (x296001_1 + ((rd_T35 y299 x6_1).f1))⟩ : S35), (⟨wrap64 ((wrap64 (x296000_1 + ((rd_T35 y299 x6_1).f0))) - 1), wrap64 (x296001_1 + ((rd_T35 y299 x6_1).f1))⟩ : S35), (⟨wrap64 ((wrap64 (x296000_1 + ((rd_T35 y299 x6_1).f0))) - 1), wrap64 ((wrap64 (x296001_1 + ((rd_T35 y299 x6_1).f1))) - 1)⟩ : S35)] : List (S35))) (inner := [.int .i64 (wrap64 (x296000_1 + ((rd_T35 y299 x6_1).f0))), .int .i64 (wrap64 ((wrap64 (x296001_1 + ((rd_T35 y299 x6_1).f1))) - 1)), .int .i64 (wrap64 (x296000_1 + ((rd_T35 y299 x6_1).f0))), .int .i64 (wrap64 (x296001_1 + ((rd_T35 y299 x6_1).f1))), .int .i64 (wrap64 ((wrap64 (x296000_1 + ((rd_T35 y299 x6_1).f0))) - 1)), .int .i64 (wrap64 (x296001_1 + ((rd_T35 y299 x6_1).f1))), .int .i64 (wrap64 ((wrap64 (x296000_1 + ((rd_T35 y299 x6_1).f0))) - 1)), .int .i64 (wrap64 ((wrap64 (x296001_1 + ((rd_T35 y299 x6_1).f1))) - 1))]) (ok := fun _ => True) (okp := fun _ => True) ?hr ?hp (fun _ hk => hk) trivial (Below.refl _ _) (Nat.le_refl _) (by simp) ?_; (case hd => rfl); (case hg => rfl); (case hr => first | (go_simp; done) | (go_simp; rfl)); (case hp => exact (Reps.c2 (show Kd.M k35 _ _ _ (⟨wrap64 (x296000_1 + ((rd_T35 y299 x6_1).f0)), wrap64 ((wrap64 (x296001_1 + ((rd_T35 y299 x6_1).f1))) - 1)⟩ : S35) [.int .i64 (wrap64 (x296000_1 + ((rd_T35 y299 x6_1).f0))), .int .i64 (wrap64 ((wrap64 (x296001_1 + ((rd_T35 y299 x6_1).f1))) - 1))] from (k35_mkM _ _ _ (⟨wrap64 (x296000_1 + ((rd_T35 y299 x6_1).f0)), wrap64 ((wrap64 (x296001_1 + ((rd_T35 y299 x6_1).f1))) - 1)⟩ : S35) )) (Reps.c2 (show Kd.M k35 _ _ _ (⟨wrap64 (x296000_1 + ((rd_T35 y299 x6_1).f0)), wrap64 (x296001_1 + ((rd_T35 y299 x6_1).f1))⟩ : S35) [.int .i64 (wrap64 (x296000_1 + ((rd_T35 y299 x6_1).f0))), .int .i64 (wrap64 (x296001_1 + ((rd_T35 y299 x6_1).f1)))] from (k35_mkM _ _ _ (⟨wrap64 (x296000_1 + ((rd_T35 y299 x6_1).f0)), wrap64 (x296001_1 + ((rd_T35 y299 x6_1).f1))⟩ : S35) )) (Reps.c2 (show Kd.M k35 _ _ _ (⟨wrap64 ((wrap64 (x296000_1 + ((rd_T35 y299 x6_1).f0))) - 1), wrap64 (x296001_1 + ((rd_T35 y299 x6_1).f1))⟩ : S35) [.int .i64 (wrap64 ((wrap64 (x296000_1 + ((rd_T35 y299 x6_1).f0))) - 1)), .int .i64 (wrap64 (x296001_1 + ((rd_T35 y299 x6_1).f1)))] from (k35_mkM _ _ _ (⟨wrap64 ((wrap64 (x296000_1 + ((rd_T35 y299 x6_1).f0))) - 1), wrap64 (x296001_1 + ((rd_T35 y299 x6_1).f1))⟩ : S35) )) (Reps.c2 (show Kd.M k35 _ _ _ (⟨wrap64 ((wrap64 (x296000_1 + ((rd_T35 y299 x6_1).f0))) - 1), wrap64 ((wrap64 (x296001_1 + ((rd_T35 y299 x6_1).f1))) - 1)⟩ : S35) [.int .i64 (wrap64 ((wrap64 (x296000_1 + ((rd_T35 y299 x6_1).f0))) - 1)), .int .i64 (wrap64 ((wrap64 (x296001_1 + ((rd_T35 y299 x6_1).f1))) - 1))] from (k35_mkM _ _ _ (⟨wrap64 ((wrap64 (x296000_1 + ((rd_T35 y299 x6_1).f0))) - 1), wrap64 ((wrap64 (x296001_1 + ((rd_T35 y299 x6_1).f1))) - 1)⟩ : S35) )) (Reps.none _ _)))))); intro v305 w43 ho44 hb hg_ hnew_; clear hg_ hnew_; (first | rw [← Ny304.out] at ho44 | (simp only [Int.reduceToNat] at ho44; rw [← Ny304.out] at ho44)); have n0_ := am (Kd.R_below (by (with_reducible repeat (first | apply Kd.R_alloc | apply Kd.R_drewN | apply Kd.R_drew)); exact (Kd.R_mono (Kd.R_far (p := ⟨gb295, 1, none⟩) (Kd.R_far (p := ⟨gb295, 0, none⟩) (Kd.R_types HO298.out BK295.out (by decide)) (fun _ hk => hk.2) (.int .i64 (wrap64 (x296000_1 + ((rd_T35 y299 x6_1).f0))))) (fun _ hk => hk.2) (.int .i64 (wrap64 (x296001_1 + ((rd_T35 y299 x6_1).f1))))) (fun _ h_ => h_.1))) hb); have n1_ := am (Kd.R_elder' (by (with_reducible repeat (first | apply Kd.R_alloc | apply Kd.R_drewN | apply Kd.R_drew)); exact (Kd.R_mono (Kd.R_far (p := ⟨gb295, 1, none⟩) (Kd.R_far (p := ⟨gb295, 0, none⟩) (Kd.R_mono HO301.out (fun k_ hk => (⟨hk, hk.2⟩ : _ ∧ k_ ≠ gb295))) (fun _ hk => hk.2) (.int .i64 (wrap64 (x296000_1 + ((rd_T35 y299 x6_1).f0))))) (fun _ hk => hk.2) (.int .i64 (wrap64 (x296001_1 + ((rd_T35 y299 x6_1).f1))))) (fun _ h_ => h_.1))) (Kd.R_base ho44) hb); have n2_ := am (Kd.R_lower (Kd.R_newB (Kd.R_newB (Kd.R_new' ho44 (Kd.R_lt (by (with_reducible repeat (first | apply Kd.R_alloc | apply Kd.R_drewN | apply Kd.R_drew)); exact (Kd.R_mono (Kd.R_far (p := ⟨gb295, 1, none⟩) (Kd.R_far (p := ⟨gb295, 0, none⟩) (Kd.R_mono HO301.out (fun k_ hk => (⟨hk, hk.2⟩ : _ ∧ k_ ≠ gb295))) (fun _ hk => hk.2) (.int .i64 (wrap64 (x296000_1 + ((rd_T35 y299 x6_1).f0))))) (fun _ hk => hk.2) (.int .i64 (wrap64 (x296001_1 + ((rd_T35 y299 x6_1).f1))))) (fun _ h_ => h_.1))))) (g := gb294) (o := .cells #[.int .i64 ((rd_T35 l0 0).f0), .int .i64 ((rd_T35 l0 0).f1)] 35 (0, 0)) (by (with_reducible repeat (first | refine Bk2 ?_ _ | refine Bk3 ?_ | refine Bk1 ?_ _)); refine blk_far ?_ NB294_295.out _; (with_reducible repeat (first | refine Bk2 ?_ _ | refine Bk3 ?_ | refine Bk1 ?_ _)); refine blk_far ?_ NB294_295.out _; (with_reducible repeat (first | refine Bk2 ?_ _ | refine Bk3 ?_ | refine Bk1 ?_ _)); exact BK294.out)) (g := gb295) (o := .cells #[.int .i64 (wrap64 (x296000_1 + ((rd_T35 y299 x6_1).f0))), .int .i64 (wrap64 (x296001_1 + ((rd_T35 y299 x6_1).f1)))] 35 (0, 0)) (by (with_reducible repeat (first | refine Bk2 ?_ _ | refine Bk3 ?_ | refine Bk1 ?_ _)); refine blk_put (cs := #[.int .i64 (wrap64 (x296000_1 + ((rd_T35 y299 x6_1).f0))), .int .i64 x296001_1]) ?_ 1 _ rfl; (with_reducible repeat (first | refine Bk2 ?_ _ | refine Bk3 ?_ | refine Bk1 ?_ _)); refine blk_put (cs := #[.int .i64 x296000_1, .int .i64 x296001_1]) ?_ 0 _ rfl; (with_reducible repeat (first | refine Bk2 ?_ _ | refine Bk3 ?_ | refine Bk1 ?_ _)); exact BK295.out)) (Bb5 (by repeat (first | (with_reducible first | exact HB.out | apply Bb1 | apply Bb2 | apply Bb3 | refine Bb4 ?_ GE294.out | refine Bb4 ?_ GE295.out) | exact HB.out)))); have n3_ := am (Bk4 (g := gb294) (o := .cells #[.int .i64 ((rd_T35 l0 0).f0), .int .i64 ((rd_T35 l0 0).f1)] 35 (0, 0)) (by (with_reducible repeat (first | refine Bk2 ?_ _ | refine Bk3 ?_ | refine Bk1 ?_ _)); refine blk_far ?_ NB294_295.out _; (with_reducible repeat (first | refine Bk2 ?_ _ | refine Bk3 ?_ | refine Bk1 ?_ _)); refine blk_far ?_ NB294_295.out _; (with_reducible repeat (first | refine Bk2 ?_ _ | refine Bk3 ?_ | refine Bk1 ?_ _)); exact BK294.out) hb); have n4_ := am (Bk4 (g := gb295) (o := .cells #[.int .i64 (wrap64 (x296000_1 + ((rd_T35 y299 x6_1).f0))), .int .i64 (wrap64 (x296001_1 + ((rd_T35 y299 x6_1).f1)))] 35 (0, 0)) (by (with_reducible repeat (first | refine Bk2 ?_ _ | refine Bk3 ?_ | refine Bk1 ?_ _)); refine blk_put (cs := #[.int .i64 (wrap64 (x296000_1 + ((rd_T35 y299 x6_1).f0))), .int .i64 x296001_1]) ?_ 1 _ rfl; (with_reducible repeat (first | refine Bk2 ?_ _ | refine Bk3 ?_ | refine Bk1 ?_ _)); refine blk_put (cs := #[.int .i64 x296000_1, .int .i64 x296001_1]) ?_ 0 _ rfl; (with_reducible repeat (first | refine Bk2 ?_ _ | refine Bk3 ?_ | refine Bk1 ?_ _)); exact BK295.out) hb); have n5_ := am (Bb6 (by repeat (first | (with_reducible first | exact HB.out | apply Bb1 | apply Bb2 | apply Bb3 | refine Bb4 ?_ GE294.out | refine Bb4 ?_ GE295.out) | exact HB.out)) hb); clear HO298; clear HO301; clear BK294; clear BK295; clear HB; have HO298 := n0_; have HO301 := n1_; have HO306 := n2_; have BK294 := n3_; have BK295 := n4_; have HB := n5_; clear n0_ n1_ n2_ n3_ n4_ n5_; clear hb ho44))
             have n0_ := am (Kd.R_drew HO298.out)
             have n1_ := am (Kd.R_drew HO301.out)
             have n2_ := am (Kd.R_drew HO306.out)
             have n3_ := am (Bk3 BK294.out)
             have n4_ := am (Bk3 BK295.out)
             have n5_ := am (Bb3 HB.out)
             clear HO298
             clear HO301
             clear HO306
             clear BK294
             clear BK295
             clear HB
             have HO298 := n0_
             have HO301 := n1_
             have HO306 := n2_
             have BK294 := n3_
             have BK295 := n4_
             have HB := n5_
             clear n0_ n1_ n2_ n3_ n4_ n5_
             obtain ⟨Ao46, co46, eo46⟩ := Kd.R_slice HO306.out
             (first | subst eo46 | (injection eo46 with f1_ f2_ f3_; have f4_ := f1_.symm; have f5_ := f3_.symm; clear f1_ f2_ f3_; subst f4_; subst f5_))
             have p307 : 0 ≤ (x6_1 : Int) := of_decide_eq_true (by first | (with_reducible assumption) | assumption)
             have q307 : x6_1 < (y304.length : Int) := of_decide_eq_true (by first | (with_reducible assumption) | assumption)
             obtain ⟨ad307, e307, hx307_0, hx307_1⟩ := at_T35 (Kd.R_reads' HO306.out).2.2 x6_1 p307 q307
             cases e307
             replace p307 := eq_true p307
             replace q307 := eq_true q307
             have p308 : 0 ≤ ((ji28) : Int) := of_decide_eq_true (by first | (with_reducible assumption) | assumption)
             have q308 : (ji28) < (y304.length : Int) := of_decide_eq_true (by first | (with_reducible assumption) | assumption)
             obtain ⟨ad308, e308, hx308_0, hx308_1⟩ := at_T35 (Kd.R_reads' HO306.out).2.2 (ji28) p308 q308
             obtain rfl : ad307 = ad308 := (by injection e308)
             replace p308 := eq_true p308
             replace q308 := eq_true q308
             refine start_ (n := 14) (S := fun w' => w'.cell? (ad307.add ((x6_1).toNat * 2)) = some (.int .i64 ((rd_T35 y304 x6_1).f0)) ∧ w'.cell? ⟨(ad307.add ((x6_1).toNat * 2)).block, (ad307.add ((x6_1).toNat * 2)).off + 1, none⟩ = some (.int .i64 ((rd_T35 y304 x6_1).f1)) ∧ w'.cell? (ad307.add (((ji28)).toNat * 2)) = some (.int .i64 ((rd_T35 y304 (ji28)).f0)) ∧ w'.cell? ⟨(ad307.add (((ji28)).toNat * 2)).block, (ad307.add (((ji28)).toNat * 2)).off + 1, none⟩ = some (.int .i64 ((rd_T35 y304 (ji28)).f1))) (ds := []) spec_l23Word.m1 (by kernel_rfl) rfl rfl ⟨hx307_0, hx307_1, hx308_0, hx308_1⟩ (fun hHeld => ?_); refine with_tabW spec_l23Word.tab11 spec_l23Word.bits11 (fun HT_ HW_ => ?_)
             generalize w43.drew = w45 at HO298 HO301 HO306 BK294 BK295 HB hx307_0 hx307_1 hx308_0 hx308_1 hHeld ⊢
             refine pure_ (i := 0) (N := some 69) (v := ?_) (a' := ?_) spec_l23Word.m3 rfl rfl (any_of HT_.out (by kernel_rfl)) (fun _ _ _ h => h) (Or.inl ⟨by rfl, ?_⟩) ?_ ?_
             rotate_left
             ·intro w'
              go_simp
              with_reducible rfl
             rotate_left
             ·simp only [Act.put, sa, i64_w, i32_w]
              rfl
             refine pure_ (i := 1) (N := some 70) (v := ?_) (a' := ?_) spec_l23Word.m13 rfl rfl (any_of HT_.out (by kernel_rfl)) (fun _ _ _ h => h) (Or.inl ⟨by rfl, ?_⟩) ?_ ?_
             rotate_left
             ·intro w'
              go_simp
              with_reducible rfl
             rotate_left
             ·simp only [Act.put, sa, i64_w, i32_w]
              rfl
             refine pure_ (i := 2) (N := some 71) (v := ?_) (a' := ?_) spec_l23Word.m14 rfl rfl (any_of HT_.out (by kernel_rfl)) (fun _ _ _ h => h) (Or.inl ⟨by rfl, ?_⟩) ?_ ?_
             rotate_left
             ·intro w'
              go_simp
              with_reducible rfl
             rotate_left
             ·simp only [Act.put, sa, i64_w, i32_w]
              rfl
             refine pure_ (i := 4) (N := some 73) (v := ?_) (a' := ?_) spec_l23Word.m15 rfl rfl (any_of HT_.out (by kernel_rfl)) (fun _ _ _ h => h) (Or.inl ⟨by rfl, ?_⟩) ?_ ?_
             rotate_left
             ·intro w'
              go_simp
              with_reducible rfl
             rotate_left
             ·simp only [Act.put, sa, i64_w, i32_w]
              rfl
             refine pure_ (i := 5) (N := some 74) (v := ?_) (a' := ?_) spec_l23Word.m16 rfl rfl (any_of HT_.out (by kernel_rfl)) (fun _ _ _ h => h) (Or.inl ⟨by rfl, ?_⟩) ?_ ?_
             rotate_left
             ·intro w'
              go_simp
              with_reducible rfl
             rotate_left
             ·simp only [Act.put, sa, i64_w, i32_w]
              rfl
             refine pure_ (i := 6) (N := some 75) (v := ?_) (a' := ?_) spec_l23Word.m17 rfl rfl (any_of HT_.out (by kernel_rfl)) (fun _ _ _ h => h) (Or.inl ⟨by rfl, ?_⟩) ?_ ?_
             rotate_left
             ·intro w'
              go_simp
              with_reducible rfl
             rotate_left
             ·simp only [Act.put, sa, i64_w, i32_w]
              rfl
             refine pure_ (i := 7) (N := some 76) (v := ?_) (a' := ?_) spec_l23Word.m18 rfl rfl (any_of HT_.out (by kernel_rfl)) (fun _ _ _ h => h) (Or.inl ⟨by rfl, ?_⟩) ?_ ?_
             rotate_left
             ·intro w'
              go_simp
              with_reducible rfl
             rotate_left
             ·simp only [Act.put, sa, i64_w, i32_w]
              rfl
             refine pure_ (i := 8) (N := some 77) (v := ?_) (a' := ?_) spec_l23Word.m19 rfl rfl (any_of HT_.out (by kernel_rfl)) (fun _ _ _ h => h) (Or.inl ⟨by rfl, ?_⟩) ?_ ?_
             rotate_left
             ·intro w'
              go_simp
              with_reducible rfl
             rotate_left
             ·simp only [Act.put, sa, i64_w, i32_w]
              rfl
             refine take_ (i := 3) (N := some 72) (v := ?_) (a' := ?_) spec_l23Word.m22 rfl rfl (take_ofW HT_.out HW_.out (by kernel_rfl)) (fun _ _ _ h => h) (Or.inl ⟨by rfl, ?_⟩) hHeld ?_ ?_
             rotate_left
             ·rintro w' ⟨s0, s1, s2, s3⟩
              go_simp
              with_reducible rfl
             rotate_left
             ·simp only [Act.put, sa, i64_w, i32_w]
              rfl
             refine take_ (i := 9) (N := some 78) (v := ?_) (a' := ?_) spec_l23Word.m24 rfl rfl (take_ofW HT_.out HW_.out (by kernel_rfl)) (fun _ _ _ h => h) (Or.inl ⟨by rfl, ?_⟩) hHeld ?_ ?_
             rotate_left
             ·rintro w' ⟨s0, s1, s2, s3⟩
              go_simp
              with_reducible rfl
             rotate_left
             ·simp only [Act.put, sa, i64_w, i32_w]
              rfl
             refine join_ (σ := Nat × Nat) 2 spec_l23Word.m27 (fun s_ => [(9, .pointer (some ⟨s_.1, 0, none⟩)), (10, .pointer (some ⟨s_.2, 0, none⟩))]) (fun s_ w' => (w'.cell? (ad307.add ((x6_1).toNat * 2)) = some (.int .i64 ((rd_T35 y304 x6_1).f0)) ∧ w'.cell? ⟨(ad307.add ((x6_1).toNat * 2)).block, (ad307.add ((x6_1).toNat * 2)).off + 1, none⟩ = some (.int .i64 ((rd_T35 y304 x6_1).f1)) ∧ w'.cell? (ad307.add (((ji28)).toNat * 2)) = some (.int .i64 ((rd_T35 y304 (ji28)).f0)) ∧ w'.cell? ⟨(ad307.add (((ji28)).toNat * 2)).block, (ad307.add (((ji28)).toNat * 2)).off + 1, none⟩ = some (.int .i64 ((rd_T35 y304 (ji28)).f1))) ∧ (Kd.R (Kd.int .u8) 5 w' w.heap.size (fun _ => True) v297 y296) ∧ (Kd.R k35 35 w' w.heap.size (fun k_ => some k_ ≠ (.slice (some ad307) y304.length co46 : Value).ownBlock ∧ k_ ≠ gb294 ∧ k_ ≠ gb295 ∧ k_ ≠ s_.1 ∧ k_ ≠ s_.2) (.slice (some ad302) y299.length co37) y299) ∧ (Kd.R k35 35 w' w.heap.size (fun k_ => some k_ ≠ (.slice (some ad302) y299.length co37 : Value).ownBlock ∧ k_ ≠ gb294 ∧ k_ ≠ gb295 ∧ k_ ≠ s_.1 ∧ k_ ≠ s_.2) (.slice (some ad307) y304.length co46) y304) ∧ (w'.heap[gb294]? = some (.cells #[.int .i64 ((rd_T35 l0 0).f0), .int .i64 ((rd_T35 l0 0).f1)] 35 (0, 0))) ∧ (w'.heap[gb295]? = some (.cells #[.int .i64 (wrap64 (x296000_1 + ((rd_T35 y299 x6_1).f0))), .int .i64 (wrap64 (x296001_1 + ((rd_T35 y299 x6_1).f1)))] 35 (0, 0))) ∧ (w'.heap[s_.1]? = some (.cells #[.int .i64 0, .int .i64 0] 35 (0, 0))) ∧ (w'.heap[s_.2]? = some (.cells #[.int .i64 0, .int .i64 0] 35 (0, 0))) ∧ (w.heap.size ≤ s_.1) ∧ (w.heap.size ≤ s_.1) ∧ (gb294 ≠ s_.1) ∧ (s_.1 ≠ gb294) ∧ (gb295 ≠ s_.1) ∧ (s_.1 ≠ gb295) ∧ (s_.2 ≠ s_.1) ∧ (s_.1 ≠ s_.2) ∧ (w.heap.size ≤ s_.2) ∧ (w.heap.size ≤ s_.2) ∧ (gb294 ≠ s_.2) ∧ (s_.2 ≠ gb294) ∧ (gb295 ≠ s_.2) ∧ (s_.2 ≠ gb295) ∧ (Below w.heap.size w w')) ?_ ?_
             rotate_left
             ·intro hCont
              refine two_ (i := 10) (j := 11) (Ni := some 9) (Nj := some 10) spec_l23Word.m26 spec_l23Word.m25 rfl rfl rfl rfl (two_of HT_.out (by kernel_rfl)) (by decide) (by decide) (fun K hK => ?_) (fun K hK => ?_)
              ·skip
               refine box_step ?hg (N := 9) ?hd (cs := #[.int .i64 0, .int .i64 0]) (t := 35) ?hr ?_; (case hd => rfl); (case hg => rfl); (case hr => first | (go_simp; done) | (go_simp; rfl))
               intro gb309 hg w47 hbox hb
               have HS0_ := (hb.cell (World.block_lt_of_cell? _ _ (hHeld.1))).trans (hHeld.1)
               have HS1_ := (hb.cell (World.block_lt_of_cell? _ _ (hHeld.2.1))).trans (hHeld.2.1)
               have HS2_ := (hb.cell (World.block_lt_of_cell? _ _ (hHeld.2.2.1))).trans (hHeld.2.2.1)
               have HS3_ := (hb.cell (World.block_lt_of_cell? _ _ (hHeld.2.2.2))).trans (hHeld.2.2.2)
               have n0_ := am (Kd.R_below (by (with_reducible repeat (first | apply Kd.R_alloc | apply Kd.R_drewN | apply Kd.R_drew)); exact HO298.out) hb)
               have n1_ := am (Kd.R_below (Kd.R_elderB (by (with_reducible repeat (first | apply Kd.R_alloc | apply Kd.R_drewN | apply Kd.R_drew)); exact HO301.out) gb309 (Nat.le_of_eq hg.symm)) hb)
               have n2_ := am (Kd.R_below (Kd.R_elderB (by (with_reducible repeat (first | apply Kd.R_alloc | apply Kd.R_drewN | apply Kd.R_drew)); exact HO306.out) gb309 (Nat.le_of_eq hg.symm)) hb)
               have n3_ := am (Bk4 (g := gb294) (o := .cells #[.int .i64 ((rd_T35 l0 0).f0), .int .i64 ((rd_T35 l0 0).f1)] 35 (0, 0)) (by (with_reducible repeat (first | refine Bk2 ?_ _ | refine Bk3 ?_ | refine Bk1 ?_ _)); exact BK294.out) hb)
               have n4_ := am (Bk4 (g := gb295) (o := .cells #[.int .i64 (wrap64 (x296000_1 + ((rd_T35 y299 x6_1).f0))), .int .i64 (wrap64 (x296001_1 + ((rd_T35 y299 x6_1).f1)))] 35 (0, 0)) (by (with_reducible repeat (first | refine Bk2 ?_ _ | refine Bk3 ?_ | refine Bk1 ?_ _)); exact BK295.out) hb)
               have n5_ := am (Bb6 (by repeat (first | (with_reducible first | exact HB.out | apply Bb1 | apply Bb2 | apply Bb3 | refine Bb4 ?_ GE294.out | refine Bb4 ?_ GE295.out) | exact HB.out)) hb)
               have n6_ := am (hbox)
               have n7_ := am ((by rw [hg]; exact (Bb5 (by repeat (first | (with_reducible first | exact HB.out | apply Bb1 | apply Bb2 | apply Bb3 | refine Bb4 ?_ GE294.out | refine Bb4 ?_ GE295.out) | exact HB.out))) : w.heap.size ≤ gb309))
               have n8_ := am ((by rw [hg]; exact (Bb5 (by repeat (first | (with_reducible first | exact HB.out | apply Bb1 | apply Bb2 | apply Bb3 | refine Bb4 ?_ GE294.out | refine Bb4 ?_ GE295.out) | exact HB.out))) : w.heap.size ≤ gb309))
               have n9_ := am ((by rw [hg]; exact nl (Bk5 (g := gb294) (o := .cells #[.int .i64 ((rd_T35 l0 0).f0), .int .i64 ((rd_T35 l0 0).f1)] 35 (0, 0)) (by (with_reducible repeat (first | refine Bk2 ?_ _ | refine Bk3 ?_ | refine Bk1 ?_ _)); exact BK294.out)) : gb294 ≠ gb309))
               have n10_ := am ((by rw [hg]; exact ng (Bk5 (g := gb294) (o := .cells #[.int .i64 ((rd_T35 l0 0).f0), .int .i64 ((rd_T35 l0 0).f1)] 35 (0, 0)) (by (with_reducible repeat (first | refine Bk2 ?_ _ | refine Bk3 ?_ | refine Bk1 ?_ _)); exact BK294.out)) : gb309 ≠ gb294))
               have n11_ := am ((by rw [hg]; exact nl (Bk5 (g := gb295) (o := .cells #[.int .i64 (wrap64 (x296000_1 + ((rd_T35 y299 x6_1).f0))), .int .i64 (wrap64 (x296001_1 + ((rd_T35 y299 x6_1).f1)))] 35 (0, 0)) (by (with_reducible repeat (first | refine Bk2 ?_ _ | refine Bk3 ?_ | refine Bk1 ?_ _)); exact BK295.out)) : gb295 ≠ gb309))
               have n12_ := am ((by rw [hg]; exact ng (Bk5 (g := gb295) (o := .cells #[.int .i64 (wrap64 (x296000_1 + ((rd_T35 y299 x6_1).f0))), .int .i64 (wrap64 (x296001_1 + ((rd_T35 y299 x6_1).f1)))] 35 (0, 0)) (by (with_reducible repeat (first | refine Bk2 ?_ _ | refine Bk3 ?_ | refine Bk1 ?_ _)); exact BK295.out)) : gb309 ≠ gb295))
               clear HO298
               clear HO301
               clear HO306
               clear BK294
               clear BK295
               clear HB
               have HO298 := n0_
               have HO301 := n1_
               have HO306 := n2_
               have BK294 := n3_
               have BK295 := n4_
               have HB := n5_
               have BK309 := n6_
               have GW309 := n7_
               have GE309 := n8_
               have NB294_309 := n9_
               have NB309_294 := n10_
               have NB295_309 := n11_
               have NB309_295 := n12_
               clear n0_ n1_ n2_ n3_ n4_ n5_ n6_ n7_ n8_ n9_ n10_ n11_ n12_
               clear hb hbox hg
               refine hK.out _ _ ⟨HS0_, HS1_, HS2_, HS3_⟩ (fun hHeld => ?_)
               clear hK K
               refine norm_ (a' := ?_) ?_ ?_
               rotate_left
               ·show Act.put _ (some 9) _ = _
                simp only [Act.put, sa, i64_w, i32_w]
                rfl
               refine one_ (i := 11) (N := some 10) spec_l23Word.m27 rfl rfl (one_of HT_.out (by kernel_rfl)) (by decide) (fun K hK => ?_)
               refine box_step ?hg (N := 10) ?hd (cs := #[.int .i64 0, .int .i64 0]) (t := 35) ?hr ?_; (case hd => rfl); (case hg => rfl); (case hr => first | (go_simp; done) | (go_simp; rfl))
               intro gb310 hg w48 hbox hb
               have HS0_ := (hb.cell (World.block_lt_of_cell? _ _ (hHeld.1))).trans (hHeld.1)
               have HS1_ := (hb.cell (World.block_lt_of_cell? _ _ (hHeld.2.1))).trans (hHeld.2.1)
               have HS2_ := (hb.cell (World.block_lt_of_cell? _ _ (hHeld.2.2.1))).trans (hHeld.2.2.1)
               have HS3_ := (hb.cell (World.block_lt_of_cell? _ _ (hHeld.2.2.2))).trans (hHeld.2.2.2)
               have n0_ := am (Kd.R_below (by (with_reducible repeat (first | apply Kd.R_alloc | apply Kd.R_drewN | apply Kd.R_drew)); exact HO298.out) hb)
               have n1_ := am (Kd.R_below (Kd.R_elderB (by (with_reducible repeat (first | apply Kd.R_alloc | apply Kd.R_drewN | apply Kd.R_drew)); exact HO301.out) gb310 (Nat.le_of_eq hg.symm)) hb)
               have n2_ := am (Kd.R_below (Kd.R_elderB (by (with_reducible repeat (first | apply Kd.R_alloc | apply Kd.R_drewN | apply Kd.R_drew)); exact HO306.out) gb310 (Nat.le_of_eq hg.symm)) hb)
               have n3_ := am (Bk4 (g := gb294) (o := .cells #[.int .i64 ((rd_T35 l0 0).f0), .int .i64 ((rd_T35 l0 0).f1)] 35 (0, 0)) (by (with_reducible repeat (first | refine Bk2 ?_ _ | refine Bk3 ?_ | refine Bk1 ?_ _)); exact BK294.out) hb)
               have n4_ := am (Bk4 (g := gb295) (o := .cells #[.int .i64 (wrap64 (x296000_1 + ((rd_T35 y299 x6_1).f0))), .int .i64 (wrap64 (x296001_1 + ((rd_T35 y299 x6_1).f1)))] 35 (0, 0)) (by (with_reducible repeat (first | refine Bk2 ?_ _ | refine Bk3 ?_ | refine Bk1 ?_ _)); exact BK295.out) hb)
               have n5_ := am (Bk4 (g := gb309) (o := .cells #[.int .i64 0, .int .i64 0] 35 (0, 0)) (by (with_reducible repeat (first | refine Bk2 ?_ _ | refine Bk3 ?_ | refine Bk1 ?_ _)); exact BK309.out) hb)
               have n6_ := am (Bb6 (by repeat (first | (with_reducible first | exact HB.out | apply Bb1 | apply Bb2 | apply Bb3 | refine Bb4 ?_ GE294.out | refine Bb4 ?_ GE295.out | refine Bb4 ?_ GE309.out) | exact HB.out)) hb)
               have n7_ := am (hbox)
               have n8_ := am ((by rw [hg]; exact (Bb5 (by repeat (first | (with_reducible first | exact HB.out | apply Bb1 | apply Bb2 | apply Bb3 | refine Bb4 ?_ GE294.out | refine Bb4 ?_ GE295.out | refine Bb4 ?_ GE309.out) | exact HB.out))) : w.heap.size ≤ gb310))
               have n9_ := am ((by rw [hg]; exact (Bb5 (by repeat (first | (with_reducible first | exact HB.out | apply Bb1 | apply Bb2 | apply Bb3 | refine Bb4 ?_ GE294.out | refine Bb4 ?_ GE295.out | refine Bb4 ?_ GE309.out) | exact HB.out))) : w.heap.size ≤ gb310))
               have n10_ := am ((by rw [hg]; exact nl (Bk5 (g := gb294) (o := .cells #[.int .i64 ((rd_T35 l0 0).f0), .int .i64 ((rd_T35 l0 0).f1)] 35 (0, 0)) (by (with_reducible repeat (first | refine Bk2 ?_ _ | refine Bk3 ?_ | refine Bk1 ?_ _)); exact BK294.out)) : gb294 ≠ gb310))
               have n11_ := am ((by rw [hg]; exact ng (Bk5 (g := gb294) (o := .cells #[.int .i64 ((rd_T35 l0 0).f0), .int .i64 ((rd_T35 l0 0).f1)] 35 (0, 0)) (by (with_reducible repeat (first | refine Bk2 ?_ _ | refine Bk3 ?_ | refine Bk1 ?_ _)); exact BK294.out)) : gb310 ≠ gb294))
               have n12_ := am ((by rw [hg]; exact nl (Bk5 (g := gb295) (o := .cells #[.int .i64 (wrap64 (x296000_1 + ((rd_T35 y299 x6_1).f0))), .int .i64 (wrap64 (x296001_1 + ((rd_T35 y299 x6_1).f1)))] 35 (0, 0)) (by (with_reducible repeat (first | refine Bk2 ?_ _ | refine Bk3 ?_ | refine Bk1 ?_ _)); exact BK295.out)) : gb295 ≠ gb310))
               have n13_ := am ((by rw [hg]; exact ng (Bk5 (g := gb295) (o := .cells #[.int .i64 (wrap64 (x296000_1 + ((rd_T35 y299 x6_1).f0))), .int .i64 (wrap64 (x296001_1 + ((rd_T35 y299 x6_1).f1)))] 35 (0, 0)) (by (with_reducible repeat (first | refine Bk2 ?_ _ | refine Bk3 ?_ | refine Bk1 ?_ _)); exact BK295.out)) : gb310 ≠ gb295))
               have n14_ := am ((by rw [hg]; exact nl (Bk5 (g := gb309) (o := .cells #[.int .i64 0, .int .i64 0] 35 (0, 0)) (by (with_reducible repeat (first | refine Bk2 ?_ _ | refine Bk3 ?_ | refine Bk1 ?_ _)); exact BK309.out)) : gb309 ≠ gb310))
               have n15_ := am ((by rw [hg]; exact ng (Bk5 (g := gb309) (o := .cells #[.int .i64 0, .int .i64 0] 35 (0, 0)) (by (with_reducible repeat (first | refine Bk2 ?_ _ | refine Bk3 ?_ | refine Bk1 ?_ _)); exact BK309.out)) : gb310 ≠ gb309))
               clear HO298
               clear HO301
               clear HO306
               clear BK294
               clear BK295
               clear BK309
               clear HB
               have HO298 := n0_
               have HO301 := n1_
               have HO306 := n2_
               have BK294 := n3_
               have BK295 := n4_
               have BK309 := n5_
               have HB := n6_
               have BK310 := n7_
               have GW310 := n8_
               have GE310 := n9_
               have NB294_310 := n10_
               have NB310_294 := n11_
               have NB295_310 := n12_
               have NB310_295 := n13_
               have NB309_310 := n14_
               have NB310_309 := n15_
               clear n0_ n1_ n2_ n3_ n4_ n5_ n6_ n7_ n8_ n9_ n10_ n11_ n12_ n13_ n14_ n15_
               clear hb hbox hg
               refine hK.out _ _ ⟨HS0_, HS1_, HS2_, HS3_⟩ (fun hHeld => ?_)
               clear hK K
               refine norm_ (a' := ?_) ?_ ?_
               rotate_left
               ·show Act.put _ (some 10) _ = _
                simp only [Act.put, sa, i64_w, i32_w]
                rfl
               exact norm_ (by simp only [putAll, Act.put, sa]) (hCont (gb309, gb310) _ ⟨hHeld, (by (with_reducible repeat (first | apply Kd.R_alloc | apply Kd.R_drewN | apply Kd.R_drew)); exact HO298.out), (by (with_reducible repeat (first | apply Kd.R_alloc | apply Kd.R_drewN | apply Kd.R_drew)); exact Kd.R_mono HO301.out (fun _ hk => ⟨hk.1.1.2, ⟨hk.1.1.1.1.2, ⟨hk.1.1.1.2, ⟨hk.1.2, hk.2⟩⟩⟩⟩)), (by (with_reducible repeat (first | apply Kd.R_alloc | apply Kd.R_drewN | apply Kd.R_drew)); exact Kd.R_mono HO306.out (fun _ hk => ⟨hk.1.1.1.1.2, ⟨hk.1.1.1.2, ⟨hk.1.1.2, ⟨hk.1.2, hk.2⟩⟩⟩⟩)), (by (with_reducible repeat (first | refine Bk2 ?_ _ | refine Bk3 ?_ | refine Bk1 ?_ _)); exact BK294.out), (by (with_reducible repeat (first | refine Bk2 ?_ _ | refine Bk3 ?_ | refine Bk1 ?_ _)); exact BK295.out), (by (with_reducible repeat (first | refine Bk2 ?_ _ | refine Bk3 ?_ | refine Bk1 ?_ _)); exact BK309.out), (by (with_reducible repeat (first | refine Bk2 ?_ _ | refine Bk3 ?_ | refine Bk1 ?_ _)); exact BK310.out), GW309.out, GE309.out, NB294_309.out, NB309_294.out, NB295_309.out, NB309_295.out, NB310_309.out, NB309_310.out, GW310.out, GE310.out, NB294_310.out, NB310_294.out, NB295_310.out, NB310_295.out, (by repeat (first | (with_reducible first | exact HB.out | apply Bb1 | apply Bb2 | apply Bb3 | refine Bb4 ?_ GE294.out | refine Bb4 ?_ GE295.out | refine Bb4 ?_ GE309.out | refine Bb4 ?_ GE310.out) | exact HB.out))⟩)
              ·skip
               refine box_step ?hg (N := 10) ?hd (cs := #[.int .i64 0, .int .i64 0]) (t := 35) ?hr ?_; (case hd => rfl); (case hg => rfl); (case hr => first | (go_simp; done) | (go_simp; rfl))
               intro gb310 hg w47 hbox hb
               have HS0_ := (hb.cell (World.block_lt_of_cell? _ _ (hHeld.1))).trans (hHeld.1)
               have HS1_ := (hb.cell (World.block_lt_of_cell? _ _ (hHeld.2.1))).trans (hHeld.2.1)
               have HS2_ := (hb.cell (World.block_lt_of_cell? _ _ (hHeld.2.2.1))).trans (hHeld.2.2.1)
               have HS3_ := (hb.cell (World.block_lt_of_cell? _ _ (hHeld.2.2.2))).trans (hHeld.2.2.2)
               have n0_ := am (Kd.R_below (by (with_reducible repeat (first | apply Kd.R_alloc | apply Kd.R_drewN | apply Kd.R_drew)); exact HO298.out) hb)
               have n1_ := am (Kd.R_below (Kd.R_elderB (by (with_reducible repeat (first | apply Kd.R_alloc | apply Kd.R_drewN | apply Kd.R_drew)); exact HO301.out) gb310 (Nat.le_of_eq hg.symm)) hb)
               have n2_ := am (Kd.R_below (Kd.R_elderB (by (with_reducible repeat (first | apply Kd.R_alloc | apply Kd.R_drewN | apply Kd.R_drew)); exact HO306.out) gb310 (Nat.le_of_eq hg.symm)) hb)
               have n3_ := am (Bk4 (g := gb294) (o := .cells #[.int .i64 ((rd_T35 l0 0).f0), .int .i64 ((rd_T35 l0 0).f1)] 35 (0, 0)) (by (with_reducible repeat (first | refine Bk2 ?_ _ | refine Bk3 ?_ | refine Bk1 ?_ _)); exact BK294.out) hb)
               have n4_ := am (Bk4 (g := gb295) (o := .cells #[.int .i64 (wrap64 (x296000_1 + ((rd_T35 y299 x6_1).f0))), .int .i64 (wrap64 (x296001_1 + ((rd_T35 y299 x6_1).f1)))] 35 (0, 0)) (by (with_reducible repeat (first | refine Bk2 ?_ _ | refine Bk3 ?_ | refine Bk1 ?_ _)); exact BK295.out) hb)
               have n5_ := am (Bb6 (by repeat (first | (with_reducible first | exact HB.out | apply Bb1 | apply Bb2 | apply Bb3 | refine Bb4 ?_ GE294.out | refine Bb4 ?_ GE295.out) | exact HB.out)) hb)
               have n6_ := am (hbox)
               have n7_ := am ((by rw [hg]; exact (Bb5 (by repeat (first | (with_reducible first | exact HB.out | apply Bb1 | apply Bb2 | apply Bb3 | refine Bb4 ?_ GE294.out | refine Bb4 ?_ GE295.out) | exact HB.out))) : w.heap.size ≤ gb310))
               have n8_ := am ((by rw [hg]; exact (Bb5 (by repeat (first | (with_reducible first | exact HB.out | apply Bb1 | apply Bb2 | apply Bb3 | refine Bb4 ?_ GE294.out | refine Bb4 ?_ GE295.out) | exact HB.out))) : w.heap.size ≤ gb310))
               have n9_ := am ((by rw [hg]; exact nl (Bk5 (g := gb294) (o := .cells #[.int .i64 ((rd_T35 l0 0).f0), .int .i64 ((rd_T35 l0 0).f1)] 35 (0, 0)) (by (with_reducible repeat (first | refine Bk2 ?_ _ | refine Bk3 ?_ | refine Bk1 ?_ _)); exact BK294.out)) : gb294 ≠ gb310))
               have n10_ := am ((by rw [hg]; exact ng (Bk5 (g := gb294) (o := .cells #[.int .i64 ((rd_T35 l0 0).f0), .int .i64 ((rd_T35 l0 0).f1)] 35 (0, 0)) (by (with_reducible repeat (first | refine Bk2 ?_ _ | refine Bk3 ?_ | refine Bk1 ?_ _)); exact BK294.out)) : gb310 ≠ gb294))
               have n11_ := am ((by rw [hg]; exact nl (Bk5 (g := gb295) (o := .cells #[.int .i64 (wrap64 (x296000_1 + ((rd_T35 y299 x6_1).f0))), .int .i64 (wrap64 (x296001_1 + ((rd_T35 y299 x6_1).f1)))] 35 (0, 0)) (by (with_reducible repeat (first | refine Bk2 ?_ _ | refine Bk3 ?_ | refine Bk1 ?_ _)); exact BK295.out)) : gb295 ≠ gb310))
               have n12_ := am ((by rw [hg]; exact ng (Bk5 (g := gb295) (o := .cells #[.int .i64 (wrap64 (x296000_1 + ((rd_T35 y299 x6_1).f0))), .int .i64 (wrap64 (x296001_1 + ((rd_T35 y299 x6_1).f1)))] 35 (0, 0)) (by (with_reducible repeat (first | refine Bk2 ?_ _ | refine Bk3 ?_ | refine Bk1 ?_ _)); exact BK295.out)) : gb310 ≠ gb295))
               clear HO298
               clear HO301
               clear HO306
               clear BK294
               clear BK295
               clear HB
               have HO298 := n0_
               have HO301 := n1_
               have HO306 := n2_
               have BK294 := n3_
               have BK295 := n4_
               have HB := n5_
               have BK310 := n6_
               have GW310 := n7_
               have GE310 := n8_
               have NB294_310 := n9_
               have NB310_294 := n10_
               have NB295_310 := n11_
               have NB310_295 := n12_
               clear n0_ n1_ n2_ n3_ n4_ n5_ n6_ n7_ n8_ n9_ n10_ n11_ n12_
               clear hb hbox hg
               refine hK.out _ _ ⟨HS0_, HS1_, HS2_, HS3_⟩ (fun hHeld => ?_)
               clear hK K
               refine norm_ (a' := ?_) ?_ ?_
               rotate_left
               ·show Act.put _ (some 10) _ = _
                simp only [Act.put, sa, i64_w, i32_w]
                rfl
               refine one_ (i := 10) (N := some 9) spec_l23Word.m27 rfl rfl (one_of HT_.out (by kernel_rfl)) (by decide) (fun K hK => ?_)
               refine box_step ?hg (N := 9) ?hd (cs := #[.int .i64 0, .int .i64 0]) (t := 35) ?hr ?_; (case hd => rfl); (case hg => rfl); (case hr => first | (go_simp; done) | (go_simp; rfl))
               intro gb309 hg w48 hbox hb
               have HS0_ := (hb.cell (World.block_lt_of_cell? _ _ (hHeld.1))).trans (hHeld.1)
               have HS1_ := (hb.cell (World.block_lt_of_cell? _ _ (hHeld.2.1))).trans (hHeld.2.1)
               have HS2_ := (hb.cell (World.block_lt_of_cell? _ _ (hHeld.2.2.1))).trans (hHeld.2.2.1)
               have HS3_ := (hb.cell (World.block_lt_of_cell? _ _ (hHeld.2.2.2))).trans (hHeld.2.2.2)
               have n0_ := am (Kd.R_below (by (with_reducible repeat (first | apply Kd.R_alloc | apply Kd.R_drewN | apply Kd.R_drew)); exact HO298.out) hb)
               have n1_ := am (Kd.R_below (Kd.R_elderB (by (with_reducible repeat (first | apply Kd.R_alloc | apply Kd.R_drewN | apply Kd.R_drew)); exact HO301.out) gb309 (Nat.le_of_eq hg.symm)) hb)
               have n2_ := am (Kd.R_below (Kd.R_elderB (by (with_reducible repeat (first | apply Kd.R_alloc | apply Kd.R_drewN | apply Kd.R_drew)); exact HO306.out) gb309 (Nat.le_of_eq hg.symm)) hb)
               have n3_ := am (Bk4 (g := gb294) (o := .cells #[.int .i64 ((rd_T35 l0 0).f0), .int .i64 ((rd_T35 l0 0).f1)] 35 (0, 0)) (by (with_reducible repeat (first | refine Bk2 ?_ _ | refine Bk3 ?_ | refine Bk1 ?_ _)); exact BK294.out) hb)
               have n4_ := am (Bk4 (g := gb295) (o := .cells #[.int .i64 (wrap64 (x296000_1 + ((rd_T35 y299 x6_1).f0))), .int .i64 (wrap64 (x296001_1 + ((rd_T35 y299 x6_1).f1)))] 35 (0, 0)) (by (with_reducible repeat (first | refine Bk2 ?_ _ | refine Bk3 ?_ | refine Bk1 ?_ _)); exact BK295.out) hb)
               have n5_ := am (Bk4 (g := gb310) (o := .cells #[.int .i64 0, .int .i64 0] 35 (0, 0)) (by (with_reducible repeat (first | refine Bk2 ?_ _ | refine Bk3 ?_ | refine Bk1 ?_ _)); exact BK310.out) hb)
               have n6_ := am (Bb6 (by repeat (first | (with_reducible first | exact HB.out | apply Bb1 | apply Bb2 | apply Bb3 | refine Bb4 ?_ GE294.out | refine Bb4 ?_ GE295.out | refine Bb4 ?_ GE310.out) | exact HB.out)) hb)
               have n7_ := am (hbox)
               have n8_ := am ((by rw [hg]; exact (Bb5 (by repeat (first | (with_reducible first | exact HB.out | apply Bb1 | apply Bb2 | apply Bb3 | refine Bb4 ?_ GE294.out | refine Bb4 ?_ GE295.out | refine Bb4 ?_ GE310.out) | exact HB.out))) : w.heap.size ≤ gb309))
               have n9_ := am ((by rw [hg]; exact (Bb5 (by repeat (first | (with_reducible first | exact HB.out | apply Bb1 | apply Bb2 | apply Bb3 | refine Bb4 ?_ GE294.out | refine Bb4 ?_ GE295.out | refine Bb4 ?_ GE310.out) | exact HB.out))) : w.heap.size ≤ gb309))
               have n10_ := am ((by rw [hg]; exact nl (Bk5 (g := gb294) (o := .cells #[.int .i64 ((rd_T35 l0 0).f0), .int .i64 ((rd_T35 l0 0).f1)] 35 (0, 0)) (by (with_reducible repeat (first | refine Bk2 ?_ _ | refine Bk3 ?_ | refine Bk1 ?_ _)); exact BK294.out)) : gb294 ≠ gb309))
               have n11_ := am ((by rw [hg]; exact ng (Bk5 (g := gb294) (o := .cells #[.int .i64 ((rd_T35 l0 0).f0), .int .i64 ((rd_T35 l0 0).f1)] 35 (0, 0)) (by (with_reducible repeat (first | refine Bk2 ?_ _ | refine Bk3 ?_ | refine Bk1 ?_ _)); exact BK294.out)) : gb309 ≠ gb294))
               have n12_ := am ((by rw [hg]; exact nl (Bk5 (g := gb295) (o := .cells #[.int .i64 (wrap64 (x296000_1 + ((rd_T35 y299 x6_1).f0))), .int .i64 (wrap64 (x296001_1 + ((rd_T35 y299 x6_1).f1)))] 35 (0, 0)) (by (with_reducible repeat (first | refine Bk2 ?_ _ | refine Bk3 ?_ | refine Bk1 ?_ _)); exact BK295.out)) : gb295 ≠ gb309))
               have n13_ := am ((by rw [hg]; exact ng (Bk5 (g := gb295) (o := .cells #[.int .i64 (wrap64 (x296000_1 + ((rd_T35 y299 x6_1).f0))), .int .i64 (wrap64 (x296001_1 + ((rd_T35 y299 x6_1).f1)))] 35 (0, 0)) (by (with_reducible repeat (first | refine Bk2 ?_ _ | refine Bk3 ?_ | refine Bk1 ?_ _)); exact BK295.out)) : gb309 ≠ gb295))
               have n14_ := am ((by rw [hg]; exact nl (Bk5 (g := gb310) (o := .cells #[.int .i64 0, .int .i64 0] 35 (0, 0)) (by (with_reducible repeat (first | refine Bk2 ?_ _ | refine Bk3 ?_ | refine Bk1 ?_ _)); exact BK310.out)) : gb310 ≠ gb309))
               have n15_ := am ((by rw [hg]; exact ng (Bk5 (g := gb310) (o := .cells #[.int .i64 0, .int .i64 0] 35 (0, 0)) (by (with_reducible repeat (first | refine Bk2 ?_ _ | refine Bk3 ?_ | refine Bk1 ?_ _)); exact BK310.out)) : gb309 ≠ gb310))
               clear HO298
               clear HO301
               clear HO306
               clear BK294
               clear BK295
               clear BK310
               clear HB
               have HO298 := n0_
               have HO301 := n1_
               have HO306 := n2_
               have BK294 := n3_
               have BK295 := n4_
               have BK310 := n5_
               have HB := n6_
               have BK309 := n7_
               have GW309 := n8_
               have GE309 := n9_
               have NB294_309 := n10_
               have NB309_294 := n11_
               have NB295_309 := n12_
               have NB309_295 := n13_
               have NB310_309 := n14_
               have NB309_310 := n15_
               clear n0_ n1_ n2_ n3_ n4_ n5_ n6_ n7_ n8_ n9_ n10_ n11_ n12_ n13_ n14_ n15_
               clear hb hbox hg
               refine hK.out _ _ ⟨HS0_, HS1_, HS2_, HS3_⟩ (fun hHeld => ?_)
               clear hK K
               refine norm_ (a' := ?_) ?_ ?_
               rotate_left
               ·show Act.put _ (some 9) _ = _
                simp only [Act.put, sa, i64_w, i32_w]
                rfl
               exact norm_ (by simp only [putAll, Act.put, sa]) (hCont (gb309, gb310) _ ⟨hHeld, (by (with_reducible repeat (first | apply Kd.R_alloc | apply Kd.R_drewN | apply Kd.R_drew)); exact HO298.out), (by (with_reducible repeat (first | apply Kd.R_alloc | apply Kd.R_drewN | apply Kd.R_drew)); exact Kd.R_mono HO301.out (fun _ hk => ⟨hk.1.1.2, ⟨hk.1.1.1.1.2, ⟨hk.1.1.1.2, ⟨hk.2, hk.1.2⟩⟩⟩⟩)), (by (with_reducible repeat (first | apply Kd.R_alloc | apply Kd.R_drewN | apply Kd.R_drew)); exact Kd.R_mono HO306.out (fun _ hk => ⟨hk.1.1.1.1.2, ⟨hk.1.1.1.2, ⟨hk.1.1.2, ⟨hk.2, hk.1.2⟩⟩⟩⟩)), (by (with_reducible repeat (first | refine Bk2 ?_ _ | refine Bk3 ?_ | refine Bk1 ?_ _)); exact BK294.out), (by (with_reducible repeat (first | refine Bk2 ?_ _ | refine Bk3 ?_ | refine Bk1 ?_ _)); exact BK295.out), (by (with_reducible repeat (first | refine Bk2 ?_ _ | refine Bk3 ?_ | refine Bk1 ?_ _)); exact BK309.out), (by (with_reducible repeat (first | refine Bk2 ?_ _ | refine Bk3 ?_ | refine Bk1 ?_ _)); exact BK310.out), GW309.out, GE309.out, NB294_309.out, NB309_294.out, NB295_309.out, NB309_295.out, NB310_309.out, NB309_310.out, GW310.out, GE310.out, NB294_310.out, NB310_294.out, NB295_310.out, NB310_295.out, (by repeat (first | (with_reducible first | exact HB.out | apply Bb1 | apply Bb2 | apply Bb3 | refine Bb4 ?_ GE294.out | refine Bb4 ?_ GE295.out | refine Bb4 ?_ GE310.out | refine Bb4 ?_ GE309.out) | exact HB.out))⟩)
             rintro ⟨gb309, gb310⟩ w49 ⟨hS_, h0_, h1_, h2_, h3_, h4_, h5_, h6_, h7_, h8_, h9_, h10_, h11_, h12_, h13_, h14_, h15_, h16_, h17_, h18_, h19_, h20_, h21_⟩
             have n0_ : Aside0 (Kd.R (Kd.int .u8) 5 w49 w.heap.size (fun _ => True) v297 y296) := ⟨h0_⟩
             have n1_ : Aside0 (Kd.R k35 35 w49 w.heap.size (fun k_ => some k_ ≠ (.slice (some ad307) y304.length co46 : Value).ownBlock ∧ k_ ≠ gb294 ∧ k_ ≠ gb295 ∧ k_ ≠ gb309 ∧ k_ ≠ gb310) (.slice (some ad302) y299.length co37) y299) := ⟨h1_⟩
             have n2_ : Aside0 (Kd.R k35 35 w49 w.heap.size (fun k_ => some k_ ≠ (.slice (some ad302) y299.length co37 : Value).ownBlock ∧ k_ ≠ gb294 ∧ k_ ≠ gb295 ∧ k_ ≠ gb309 ∧ k_ ≠ gb310) (.slice (some ad307) y304.length co46) y304) := ⟨h2_⟩
             have n3_ : Aside0 (w49.heap[gb294]? = some (.cells #[.int .i64 ((rd_T35 l0 0).f0), .int .i64 ((rd_T35 l0 0).f1)] 35 (0, 0))) := ⟨h3_⟩
             have n4_ : Aside0 (w49.heap[gb295]? = some (.cells #[.int .i64 (wrap64 (x296000_1 + ((rd_T35 y299 x6_1).f0))), .int .i64 (wrap64 (x296001_1 + ((rd_T35 y299 x6_1).f1)))] 35 (0, 0))) := ⟨h4_⟩
             have n5_ : Aside0 (w49.heap[gb309]? = some (.cells #[.int .i64 0, .int .i64 0] 35 (0, 0))) := ⟨h5_⟩
             have n6_ : Aside0 (w49.heap[gb310]? = some (.cells #[.int .i64 0, .int .i64 0] 35 (0, 0))) := ⟨h6_⟩
             have n7_ : Aside0 (w.heap.size ≤ gb309) := ⟨h7_⟩
             have n8_ : Aside0 (w.heap.size ≤ gb309) := ⟨h8_⟩
             have n9_ : Aside0 (gb294 ≠ gb309) := ⟨h9_⟩
             have n10_ : Aside0 (gb309 ≠ gb294) := ⟨h10_⟩
             have n11_ : Aside0 (gb295 ≠ gb309) := ⟨h11_⟩
             have n12_ : Aside0 (gb309 ≠ gb295) := ⟨h12_⟩
             have n13_ : Aside0 (gb310 ≠ gb309) := ⟨h13_⟩
             have n14_ : Aside0 (gb309 ≠ gb310) := ⟨h14_⟩
             have n15_ : Aside0 (w.heap.size ≤ gb310) := ⟨h15_⟩
             have n16_ : Aside0 (w.heap.size ≤ gb310) := ⟨h16_⟩
             have n17_ : Aside0 (gb294 ≠ gb310) := ⟨h17_⟩
             have n18_ : Aside0 (gb310 ≠ gb294) := ⟨h18_⟩
             have n19_ : Aside0 (gb295 ≠ gb310) := ⟨h19_⟩
             have n20_ : Aside0 (gb310 ≠ gb295) := ⟨h20_⟩
             have n21_ : Aside0 (Below w.heap.size w w49) := ⟨h21_⟩
             clear HO298
             clear HO301
             clear HO306
             clear BK294
             clear BK295
             clear HB
             clear h0_ h1_ h2_ h3_ h4_ h5_ h6_ h7_ h8_ h9_ h10_ h11_ h12_ h13_ h14_ h15_ h16_ h17_ h18_ h19_ h20_ h21_
             have HO298 := n0_
             have HO301 := n1_
             have HO306 := n2_
             have BK294 := n3_
             have BK295 := n4_
             have BK309 := n5_
             have BK310 := n6_
             have GW309 := n7_
             have GE309 := n8_
             have NB294_309 := n9_
             have NB309_294 := n10_
             have NB295_309 := n11_
             have NB309_295 := n12_
             have NB310_309 := n13_
             have NB309_310 := n14_
             have GW310 := n15_
             have GE310 := n16_
             have NB294_310 := n17_
             have NB310_294 := n18_
             have NB295_310 := n19_
             have NB310_295 := n20_
             have HB := n21_
             clear n0_ n1_ n2_ n3_ n4_ n5_ n6_ n7_ n8_ n9_ n10_ n11_ n12_ n13_ n14_ n15_ n16_ n17_ n18_ n19_ n20_ n21_
             have hHeld : w49.cell? (ad307.add ((x6_1).toNat * 2)) = some (.int .i64 ((rd_T35 y304 x6_1).f0)) ∧ w49.cell? ⟨(ad307.add ((x6_1).toNat * 2)).block, (ad307.add ((x6_1).toNat * 2)).off + 1, none⟩ = some (.int .i64 ((rd_T35 y304 x6_1).f1)) ∧ w49.cell? (ad307.add (((ji28)).toNat * 2)) = some (.int .i64 ((rd_T35 y304 (ji28)).f0)) ∧ w49.cell? ⟨(ad307.add (((ji28)).toNat * 2)).block, (ad307.add (((ji28)).toNat * 2)).off + 1, none⟩ = some (.int .i64 ((rd_T35 y304 (ji28)).f1)) := hS_
             refine norm_ (a' := ?_) ?_ ?_
             rotate_left
             ·simp only [putAll, Act.put, sa]
              rfl
             refine one_ (i := 12) (N := none) spec_l23Word.m28 rfl rfl (one_of HT_.out (by kernel_rfl)) (by decide) (fun K hK => ?_)
             have hs50 : w49.cell? ⟨gb309, 0, none⟩ = some (.int .i64 0) := (kc BK309.out 0).trans rfl
             have hfs50 := kf BK309.out 0
             have hns50_0 := NB294_309.out
             have hns50_1 := NB295_309.out
             have hns50_3 := NB310_309.out
             have hms50_0 := NB309_294.out
             have hms50_1 := NB309_295.out
             have hms50_3 := NB309_310.out
             have hs51 : w49.cell? ⟨gb309, 1, none⟩ = some (.int .i64 0) := (kc BK309.out 1).trans rfl
             have hfs51 := kf BK309.out 1
             have hns51_0 := NB294_309.out
             have hns51_1 := NB295_309.out
             have hns51_3 := NB310_309.out
             have hms51_0 := NB309_294.out
             have hms51_1 := NB309_295.out
             have hms51_3 := NB309_310.out
             refine skip_ (w1 := ?_) (by rfl) rfl ?_ ?_
             rotate_left
             ·go_simp
              rfl
             refine hK.out _ _ ⟨((cell_far (p := ⟨gb309, _, none⟩) (by first | exact Kd.own_blk (Kd.R_away HO306.out (fun _ hk => hk.2.2.2.1)) | (rw [add_block]; exact Kd.own_blk (Kd.R_away HO306.out (fun _ hk => hk.2.2.2.1))) | (show (Addr.add _ _).block ≠ _; rw [add_block]; exact Kd.own_blk (Kd.R_away HO306.out (fun _ hk => hk.2.2.2.1))) | (dsimp only; exact Kd.own_blk (Kd.R_away HO306.out (fun _ hk => hk.2.2.2.1)))) _).trans (((cell_far (p := ⟨gb309, _, none⟩) (by first | exact Kd.own_blk (Kd.R_away HO306.out (fun _ hk => hk.2.2.2.1)) | (rw [add_block]; exact Kd.own_blk (Kd.R_away HO306.out (fun _ hk => hk.2.2.2.1))) | (show (Addr.add _ _).block ≠ _; rw [add_block]; exact Kd.own_blk (Kd.R_away HO306.out (fun _ hk => hk.2.2.2.1))) | (dsimp only; exact Kd.own_blk (Kd.R_away HO306.out (fun _ hk => hk.2.2.2.1)))) _).trans (hHeld.1)))), ((cell_far (p := ⟨gb309, _, none⟩) (by first | exact Kd.own_blk (Kd.R_away HO306.out (fun _ hk => hk.2.2.2.1)) | (rw [add_block]; exact Kd.own_blk (Kd.R_away HO306.out (fun _ hk => hk.2.2.2.1))) | (show (Addr.add _ _).block ≠ _; rw [add_block]; exact Kd.own_blk (Kd.R_away HO306.out (fun _ hk => hk.2.2.2.1))) | (dsimp only; exact Kd.own_blk (Kd.R_away HO306.out (fun _ hk => hk.2.2.2.1)))) _).trans (((cell_far (p := ⟨gb309, _, none⟩) (by first | exact Kd.own_blk (Kd.R_away HO306.out (fun _ hk => hk.2.2.2.1)) | (rw [add_block]; exact Kd.own_blk (Kd.R_away HO306.out (fun _ hk => hk.2.2.2.1))) | (show (Addr.add _ _).block ≠ _; rw [add_block]; exact Kd.own_blk (Kd.R_away HO306.out (fun _ hk => hk.2.2.2.1))) | (dsimp only; exact Kd.own_blk (Kd.R_away HO306.out (fun _ hk => hk.2.2.2.1)))) _).trans (hHeld.2.1)))), ((cell_far (p := ⟨gb309, _, none⟩) (by first | exact Kd.own_blk (Kd.R_away HO306.out (fun _ hk => hk.2.2.2.1)) | (rw [add_block]; exact Kd.own_blk (Kd.R_away HO306.out (fun _ hk => hk.2.2.2.1))) | (show (Addr.add _ _).block ≠ _; rw [add_block]; exact Kd.own_blk (Kd.R_away HO306.out (fun _ hk => hk.2.2.2.1))) | (dsimp only; exact Kd.own_blk (Kd.R_away HO306.out (fun _ hk => hk.2.2.2.1)))) _).trans (((cell_far (p := ⟨gb309, _, none⟩) (by first | exact Kd.own_blk (Kd.R_away HO306.out (fun _ hk => hk.2.2.2.1)) | (rw [add_block]; exact Kd.own_blk (Kd.R_away HO306.out (fun _ hk => hk.2.2.2.1))) | (show (Addr.add _ _).block ≠ _; rw [add_block]; exact Kd.own_blk (Kd.R_away HO306.out (fun _ hk => hk.2.2.2.1))) | (dsimp only; exact Kd.own_blk (Kd.R_away HO306.out (fun _ hk => hk.2.2.2.1)))) _).trans (hHeld.2.2.1)))), ((cell_far (p := ⟨gb309, _, none⟩) (by first | exact Kd.own_blk (Kd.R_away HO306.out (fun _ hk => hk.2.2.2.1)) | (rw [add_block]; exact Kd.own_blk (Kd.R_away HO306.out (fun _ hk => hk.2.2.2.1))) | (show (Addr.add _ _).block ≠ _; rw [add_block]; exact Kd.own_blk (Kd.R_away HO306.out (fun _ hk => hk.2.2.2.1))) | (dsimp only; exact Kd.own_blk (Kd.R_away HO306.out (fun _ hk => hk.2.2.2.1)))) _).trans (((cell_far (p := ⟨gb309, _, none⟩) (by first | exact Kd.own_blk (Kd.R_away HO306.out (fun _ hk => hk.2.2.2.1)) | (rw [add_block]; exact Kd.own_blk (Kd.R_away HO306.out (fun _ hk => hk.2.2.2.1))) | (show (Addr.add _ _).block ≠ _; rw [add_block]; exact Kd.own_blk (Kd.R_away HO306.out (fun _ hk => hk.2.2.2.1))) | (dsimp only; exact Kd.own_blk (Kd.R_away HO306.out (fun _ hk => hk.2.2.2.1)))) _).trans (hHeld.2.2.2))))⟩ (fun hHeld => ?_)
             clear hK K
             refine one_ (i := 13) (N := none) spec_l23Word.m34 rfl rfl (one_of HT_.out (by kernel_rfl)) (by decide) (fun K hK => ?_)
             have hs52 : w49.cell? ⟨gb310, 0, none⟩ = some (.int .i64 0) := (kc BK310.out 0).trans rfl
             have hfs52 := kf BK310.out 0
             have hns52_0 := NB294_310.out
             have hns52_1 := NB295_310.out
             have hns52_2 := NB309_310.out
             have hms52_0 := NB310_294.out
             have hms52_1 := NB310_295.out
             have hms52_2 := NB310_309.out
             have hs53 : w49.cell? ⟨gb310, 1, none⟩ = some (.int .i64 0) := (kc BK310.out 1).trans rfl
             have hfs53 := kf BK310.out 1
             have hns53_0 := NB294_310.out
             have hns53_1 := NB295_310.out
             have hns53_2 := NB309_310.out
             have hms53_0 := NB310_294.out
             have hms53_1 := NB310_295.out
             have hms53_2 := NB310_309.out
             refine skip_ (w1 := ?_) (by rfl) rfl ?_ ?_
             rotate_left
             ·go_simp
              rfl
             refine hK.out _ _ ⟨((cell_far (p := ⟨gb310, _, none⟩) (by first | exact Kd.own_blk (Kd.R_away HO306.out (fun _ hk => hk.2.2.2.2)) | (rw [add_block]; exact Kd.own_blk (Kd.R_away HO306.out (fun _ hk => hk.2.2.2.2))) | (show (Addr.add _ _).block ≠ _; rw [add_block]; exact Kd.own_blk (Kd.R_away HO306.out (fun _ hk => hk.2.2.2.2))) | (dsimp only; exact Kd.own_blk (Kd.R_away HO306.out (fun _ hk => hk.2.2.2.2)))) _).trans (((cell_far (p := ⟨gb310, _, none⟩) (by first | exact Kd.own_blk (Kd.R_away HO306.out (fun _ hk => hk.2.2.2.2)) | (rw [add_block]; exact Kd.own_blk (Kd.R_away HO306.out (fun _ hk => hk.2.2.2.2))) | (show (Addr.add _ _).block ≠ _; rw [add_block]; exact Kd.own_blk (Kd.R_away HO306.out (fun _ hk => hk.2.2.2.2))) | (dsimp only; exact Kd.own_blk (Kd.R_away HO306.out (fun _ hk => hk.2.2.2.2)))) _).trans (hHeld.1)))), ((cell_far (p := ⟨gb310, _, none⟩) (by first | exact Kd.own_blk (Kd.R_away HO306.out (fun _ hk => hk.2.2.2.2)) | (rw [add_block]; exact Kd.own_blk (Kd.R_away HO306.out (fun _ hk => hk.2.2.2.2))) | (show (Addr.add _ _).block ≠ _; rw [add_block]; exact Kd.own_blk (Kd.R_away HO306.out (fun _ hk => hk.2.2.2.2))) | (dsimp only; exact Kd.own_blk (Kd.R_away HO306.out (fun _ hk => hk.2.2.2.2)))) _).trans (((cell_far (p := ⟨gb310, _, none⟩) (by first | exact Kd.own_blk (Kd.R_away HO306.out (fun _ hk => hk.2.2.2.2)) | (rw [add_block]; exact Kd.own_blk (Kd.R_away HO306.out (fun _ hk => hk.2.2.2.2))) | (show (Addr.add _ _).block ≠ _; rw [add_block]; exact Kd.own_blk (Kd.R_away HO306.out (fun _ hk => hk.2.2.2.2))) | (dsimp only; exact Kd.own_blk (Kd.R_away HO306.out (fun _ hk => hk.2.2.2.2)))) _).trans (hHeld.2.1)))), ((cell_far (p := ⟨gb310, _, none⟩) (by first | exact Kd.own_blk (Kd.R_away HO306.out (fun _ hk => hk.2.2.2.2)) | (rw [add_block]; exact Kd.own_blk (Kd.R_away HO306.out (fun _ hk => hk.2.2.2.2))) | (show (Addr.add _ _).block ≠ _; rw [add_block]; exact Kd.own_blk (Kd.R_away HO306.out (fun _ hk => hk.2.2.2.2))) | (dsimp only; exact Kd.own_blk (Kd.R_away HO306.out (fun _ hk => hk.2.2.2.2)))) _).trans (((cell_far (p := ⟨gb310, _, none⟩) (by first | exact Kd.own_blk (Kd.R_away HO306.out (fun _ hk => hk.2.2.2.2)) | (rw [add_block]; exact Kd.own_blk (Kd.R_away HO306.out (fun _ hk => hk.2.2.2.2))) | (show (Addr.add _ _).block ≠ _; rw [add_block]; exact Kd.own_blk (Kd.R_away HO306.out (fun _ hk => hk.2.2.2.2))) | (dsimp only; exact Kd.own_blk (Kd.R_away HO306.out (fun _ hk => hk.2.2.2.2)))) _).trans (hHeld.2.2.1)))), ((cell_far (p := ⟨gb310, _, none⟩) (by first | exact Kd.own_blk (Kd.R_away HO306.out (fun _ hk => hk.2.2.2.2)) | (rw [add_block]; exact Kd.own_blk (Kd.R_away HO306.out (fun _ hk => hk.2.2.2.2))) | (show (Addr.add _ _).block ≠ _; rw [add_block]; exact Kd.own_blk (Kd.R_away HO306.out (fun _ hk => hk.2.2.2.2))) | (dsimp only; exact Kd.own_blk (Kd.R_away HO306.out (fun _ hk => hk.2.2.2.2)))) _).trans (((cell_far (p := ⟨gb310, _, none⟩) (by first | exact Kd.own_blk (Kd.R_away HO306.out (fun _ hk => hk.2.2.2.2)) | (rw [add_block]; exact Kd.own_blk (Kd.R_away HO306.out (fun _ hk => hk.2.2.2.2))) | (show (Addr.add _ _).block ≠ _; rw [add_block]; exact Kd.own_blk (Kd.R_away HO306.out (fun _ hk => hk.2.2.2.2))) | (dsimp only; exact Kd.own_blk (Kd.R_away HO306.out (fun _ hk => hk.2.2.2.2)))) _).trans (hHeld.2.2.2))))⟩ (fun hHeld => ?_)
             clear hK K
             refine done_ (done_of HT_.out (by kernel_rfl)) ?_
             have hnb54 := NB309_294.out
             have hnc54 := NB294_309.out
             have hnb55 := NB309_295.out
             have hnc55 := NB295_309.out
             have hnb56 := NB309_310.out
             have hnc56 := NB310_309.out
             have hcz57_0 : w49.cell? ⟨gb309, 0, none⟩ = some (.int .i64 0) := (kc BK309.out 0).trans rfl
             have hcz57_1 : w49.cell? ⟨gb309, 1, none⟩ = some (.int .i64 0) := (kc BK309.out 1).trans rfl
             have hfz57_0 := kf BK309.out 0
             have hfz57_1 := kf BK309.out 1
             try go_wp2_with (first | ((with_reducible refine gate_callee (f := 27) rfl ?_); refine goesL_ (some 82) rfl rfl Try.func27 (by kernel_rfl) rfl #[.slice (some ad293) l0.length c0, .agg #[.int .i64 ((rd_T35 y304 x6_1).f0), .int .i64 ((rd_T35 y304 x6_1).f1)]] rfl (by (try simp only [List.map_toArray, List.map_cons, List.map_nil]); first | done | rfl | (simp only [List.length_drop, List.length_take]; rfl)) ?_; (with_reducible refine (spec_l02Index.calls k1 _ _ l0 ((rd_T35 y304 x6_1).f0) ((rd_T35 y304 x6_1).f1) t311 _ ?side1 ?side2 A31.out).mono ?_); (case side1 => exact Kd.C_below HR0.out (by repeat (first | (with_reducible first | exact HB.out | apply Bb1 | apply Bb2 | apply Bb3 | refine Bb4 ?_ GE294.out | refine Bb4 ?_ GE295.out | refine Bb4 ?_ GE309.out | refine Bb4 ?_ GE310.out) | exact HB.out))); (case side2 => exact HC0.out); rintro e w58 ⟨rfl, hb⟩; refine ⟨_, rfl, ?_⟩; have n0_ := am (Kd.R_below (by (with_reducible repeat (first | apply Kd.R_alloc | apply Kd.R_drewN | apply Kd.R_drew)); exact (Kd.R_mono (Kd.R_mono (Kd.R_far (p := ⟨gb310, 1, none⟩) (Kd.R_far (p := ⟨gb310, 0, none⟩) (Kd.R_far (p := ⟨gb309, 1, none⟩) (Kd.R_far (p := ⟨gb309, 0, none⟩) (Kd.R_types (Kd.R_types HO298.out BK309.out (by decide)) BK310.out (by decide)) (fun _ hk => hk.1.2) (.int .i64 ((rd_T35 y304 x6_1).f0))) (fun _ hk => hk.1.2) (.int .i64 ((rd_T35 y304 x6_1).f1))) (fun _ hk => hk.2) (.int .i64 ((rd_T35 y304 (ji28)).f0))) (fun _ hk => hk.2) (.int .i64 ((rd_T35 y304 (ji28)).f1))) (fun _ h_ => h_.1)) (fun _ h_ => h_.1))) hb); have n1_ := am (Kd.R_below (by (with_reducible repeat (first | apply Kd.R_alloc | apply Kd.R_drewN | apply Kd.R_drew)); exact (Kd.R_mono (Kd.R_mono (Kd.R_far (p := ⟨gb310, 1, none⟩) (Kd.R_far (p := ⟨gb310, 0, none⟩) (Kd.R_far (p := ⟨gb309, 1, none⟩) (Kd.R_far (p := ⟨gb309, 0, none⟩) (Kd.R_mono (Kd.R_mono HO301.out (fun k_ hk => (⟨hk, hk.2.2.2.1⟩ : _ ∧ k_ ≠ gb309))) (fun k_ hk => (⟨hk, hk.1.2.2.2.2⟩ : _ ∧ k_ ≠ gb310))) (fun _ hk => hk.1.2) (.int .i64 ((rd_T35 y304 x6_1).f0))) (fun _ hk => hk.1.2) (.int .i64 ((rd_T35 y304 x6_1).f1))) (fun _ hk => hk.2) (.int .i64 ((rd_T35 y304 (ji28)).f0))) (fun _ hk => hk.2) (.int .i64 ((rd_T35 y304 (ji28)).f1))) (fun _ h_ => h_.1)) (fun _ h_ => h_.1))) hb); have n2_ := am (Kd.R_below (by (with_reducible repeat (first | apply Kd.R_alloc | apply Kd.R_drewN | apply Kd.R_drew)); exact (Kd.R_mono (Kd.R_mono (Kd.R_far (p := ⟨gb310, 1, none⟩) (Kd.R_far (p := ⟨gb310, 0, none⟩) (Kd.R_far (p := ⟨gb309, 1, none⟩) (Kd.R_far (p := ⟨gb309, 0, none⟩) (Kd.R_mono (Kd.R_mono HO306.out (fun k_ hk => (⟨hk, hk.2.2.2.1⟩ : _ ∧ k_ ≠ gb309))) (fun k_ hk => (⟨hk, hk.1.2.2.2.2⟩ : _ ∧ k_ ≠ gb310))) (fun _ hk => hk.1.2) (.int .i64 ((rd_T35 y304 x6_1).f0))) (fun _ hk => hk.1.2) (.int .i64 ((rd_T35 y304 x6_1).f1))) (fun _ hk => hk.2) (.int .i64 ((rd_T35 y304 (ji28)).f0))) (fun _ hk => hk.2) (.int .i64 ((rd_T35 y304 (ji28)).f1))) (fun _ h_ => h_.1)) (fun _ h_ => h_.1))) hb); have n3_ := am (Bk4 (g := gb294) (o := .cells #[.int .i64 ((rd_T35 l0 0).f0), .int .i64 ((rd_T35 l0 0).f1)] 35 (0, 0)) (by (with_reducible repeat (first | refine Bk2 ?_ _ | refine Bk3 ?_ | refine Bk1 ?_ _)); refine blk_far ?_ NB294_310.out _; (with_reducible repeat (first | refine Bk2 ?_ _ | refine Bk3 ?_ | refine Bk1 ?_ _)); refine blk_far ?_ NB294_310.out _; (with_reducible repeat (first | refine Bk2 ?_ _ | refine Bk3 ?_ | refine Bk1 ?_ _)); refine blk_far ?_ NB294_309.out _; (with_reducible repeat (first | refine Bk2 ?_ _ | refine Bk3 ?_ | refine Bk1 ?_ _)); refine blk_far ?_ NB294_309.out _; (with_reducible repeat (first | refine Bk2 ?_ _ | refine Bk3 ?_ | refine Bk1 ?_ _)); exact BK294.out) hb); have n4_ := am (Bk4 (g := gb295) (o := .cells #[.int .i64 (wrap64 (x296000_1 + ((rd_T35 y299 x6_1).f0))), .int .i64 (wrap64 (x296001_1 + ((rd_T35 y299 x6_1).f1)))] 35 (0, 0)) (by (with_reducible repeat (first | refine Bk2 ?_ _ | refine Bk3 ?_ | refine Bk1 ?_ _)); refine blk_far ?_ NB295_310.out _; (with_reducible repeat (first | refine Bk2 ?_ _ | refine Bk3 ?_ | refine Bk1 ?_ _)); refine blk_far ?_ NB295_310.out _; (with_reducible repeat (first | refine Bk2 ?_ _ | refine Bk3 ?_ | refine Bk1 ?_ _)); refine blk_far ?_ NB295_309.out _; (with_reducible repeat (first | refine Bk2 ?_ _ | refine Bk3 ?_ | refine Bk1 ?_ _)); refine blk_far ?_ NB295_309.out _; (with_reducible repeat (first | refine Bk2 ?_ _ | refine Bk3 ?_ | refine Bk1 ?_ _)); exact BK295.out) hb); have n5_ := am (Bk4 (g := gb309) (o := .cells #[.int .i64 ((rd_T35 y304 x6_1).f0), .int .i64 ((rd_T35 y304 x6_1).f1)] 35 (0, 0)) (by (with_reducible repeat (first | refine Bk2 ?_ _ | refine Bk3 ?_ | refine Bk1 ?_ _)); refine blk_far ?_ NB309_310.out _; (with_reducible repeat (first | refine Bk2 ?_ _ | refine Bk3 ?_ | refine Bk1 ?_ _)); refine blk_far ?_ NB309_310.out _; (with_reducible repeat (first | refine Bk2 ?_ _ | refine Bk3 ?_ | refine Bk1 ?_ _)); refine blk_put (cs := #[.int .i64 ((rd_T35 y304 x6_1).f0), .int .i64 0]) ?_ 1 _ rfl; (with_reducible repeat (first | refine Bk2 ?_ _ | refine Bk3 ?_ | refine Bk1 ?_ _)); refine blk_put (cs := #[.int .i64 0, .int .i64 0]) ?_ 0 _ rfl; (with_reducible repeat (first | refine Bk2 ?_ _ | refine Bk3 ?_ | refine Bk1 ?_ _)); exact BK309.out) hb); have n6_ := am (Bk4 (g := gb310) (o := .cells #[.int .i64 ((rd_T35 y304 (ji28)).f0), .int .i64 ((rd_T35 y304 (ji28)).f1)] 35 (0, 0)) (by (with_reducible repeat (first | refine Bk2 ?_ _ | refine Bk3 ?_ | refine Bk1 ?_ _)); refine blk_put (cs := #[.int .i64 ((rd_T35 y304 (ji28)).f0), .int .i64 0]) ?_ 1 _ rfl; (with_reducible repeat (first | refine Bk2 ?_ _ | refine Bk3 ?_ | refine Bk1 ?_ _)); refine blk_put (cs := #[.int .i64 0, .int .i64 0]) ?_ 0 _ rfl; (with_reducible repeat (first | refine Bk2 ?_ _ | refine Bk3 ?_ | refine Bk1 ?_ _)); refine blk_far ?_ NB310_309.out _; (with_reducible repeat (first | refine Bk2 ?_ _ | refine Bk3 ?_ | refine Bk1 ?_ _)); refine blk_far ?_ NB310_309.out _; (with_reducible repeat (first | refine Bk2 ?_ _ | refine Bk3 ?_ | refine Bk1 ?_ _)); exact BK310.out) hb); have n7_ := am (Bb6 (by repeat (first | (with_reducible first | exact HB.out | apply Bb1 | apply Bb2 | apply Bb3 | refine Bb4 ?_ GE294.out | refine Bb4 ?_ GE295.out | refine Bb4 ?_ GE309.out | refine Bb4 ?_ GE310.out) | exact HB.out)) hb); clear HO298; clear HO301; clear HO306; clear BK294; clear BK295; clear BK309; clear BK310; clear HB; have HO298 := n0_; have HO301 := n1_; have HO306 := n2_; have BK294 := n3_; have BK295 := n4_; have BK309 := n5_; have BK310 := n6_; have HB := n7_; clear n0_ n1_ n2_ n3_ n4_ n5_ n6_ n7_; (try clear hb); (try clear hb2); (try clear hk); (try clear hi)))
             go_roundg k1
             case measure => have := HK1.out; omega
             case rel => exact ⟨(y296), (Int.tmod (wrap64 (x6_1 + 3)) 4), (wrap64 (x296000_1 + ((rd_T35 y299 x6_1).f0))), (wrap64 (x296001_1 + ((rd_T35 y299 x6_1).f1))), (by first | rfl | (simp; done) | (simp [*]; done)), H', ⟨by have := HK1.out; omega⟩, ⟨by (with_reducible repeat (first | apply Kd.R_alloc | apply Kd.R_drewN | apply Kd.R_drew)); exact HO298.out⟩, ⟨by (with_reducible repeat (first | refine Bk2 ?_ _ | refine Bk3 ?_ | refine Bk1 ?_ _)); exact BK294.out⟩, ⟨by (with_reducible repeat (first | refine Bk2 ?_ _ | refine Bk3 ?_ | refine Bk1 ?_ _)); exact BK295.out⟩, ⟨by repeat (first | (with_reducible first | exact HB.out | apply Bb1 | apply Bb2 | apply Bb3 | refine Bb4 ?_ GE294.out | refine Bb4 ?_ GE295.out | refine Bb4 ?_ GE309.out | refine Bb4 ?_ GE310.out) | exact HB.out)⟩⟩
            ·rw [if_neg c32] at H
             have c32b0 : decide (0 ≤ t311) = false := decide_eq_false c32
             clear c32
             replace H := ob H
             obtain ⟨t312, A590, H⟩ := H
             replace H : (if t312 < 0 then (spec_l23Word.l0 k1 l0 y296 ji28 ((rd_T35 l0 0).f0) ((rd_T35 l0 0).f1) (wrap64 (x296000_1 + ((rd_T35 y299 x6_1).f0))) (wrap64 (x296001_1 + ((rd_T35 y299 x6_1).f1)))) else (spec_l23Word.l0 k1 l0 y296 x6_1 ((rd_T35 l0 0).f0) ((rd_T35 l0 0).f1) (wrap64 (x296000_1 + ((rd_T35 y299 x6_1).f0))) (wrap64 (x296001_1 + ((rd_T35 y299 x6_1).f1))))) = some r := H
             have A59 := am A590
             clear A590
             by_cases c60 : t312 < 0
             ·rw [if_pos c60] at H
              have c60b0 : decide (t312 < 0) = true := decide_eq_true c60
              clear c60
              have H' := am H
              clear H
              have p12 : 0 ≤ (x6_1 : Int) := of_decide_eq_true (by first | (with_reducible assumption) | assumption)
              have q12 : x6_1 < (4 : Int) := of_decide_eq_true (by first | (with_reducible assumption) | assumption)
              have hx12 := bt_at (⟨#[114, 100, 108, 117]⟩ : ByteArray) x6_1
              replace p12 := eq_true p12
              replace q12 := eq_true q12
              try go_wp2_with (first | ((with_reducible refine gate_builtin (b := .append) (xs := #[.tmp 16, .tmp 19]) rfl ?_); at_builtin; refine Kd.R_append (Kd.int .u8) (w0 := w) w.heap.size rfl (.tmp 16) (.tmp 19) 53 5 (.int .u8 0) 1 rfl Try.underlying53 info5 rfl (by decide) (by omega) u3 x3_1 (bt (⟨#[114, 100, 108, 117]⟩ : ByteArray) x6_1) [.int .u8 (bt (⟨#[114, 100, 108, 117]⟩ : ByteArray) x6_1)] (fun _ => True) (fun _ => False) rfl rfl ?aP (fun _ hk => hk.elim) ?aF ?aO ?aB ?aS ?aL ?_; (case aP => exact rfl); (case aB => exact (by repeat (first | (with_reducible first | exact HB.out | apply Bb1 | apply Bb2 | apply Bb3 | refine Bb4 ?_ GE294.out | refine Bb4 ?_ GE295.out) | exact HB.out))); (case aF => exact (fun _ _ => trivial)); (case aO => exact (by (with_reducible repeat (first | apply Kd.R_alloc | apply Kd.R_drewN | apply Kd.R_drew)); exact HO_3.out)); (case aS => exact (Bb5 (by repeat (first | (with_reducible first | exact HB.out | apply Bb1 | apply Bb2 | apply Bb3 | refine Bb4 ?_ GE294.out | refine Bb4 ?_ GE295.out) | exact HB.out)))); (case aL => first | (have := LMc13.out; omega) | (have h_ := Nat.le_of_lt LMc13.out; exact h_)); intro v297 w61 ho hb hg hat; rw [← Ny296.out] at ho; have n0_ := am (blk_grown (g := gb294) (o := .cells #[.int .i64 ((rd_T35 l0 0).f0), .int .i64 ((rd_T35 l0 0).f1)] 35 (0, 0)) (by (with_reducible repeat (first | refine Bk2 ?_ _ | refine Bk3 ?_ | refine Bk1 ?_ _)); exact BK294.out) hg (Kd.R_ne HO_3.out BK294.out (by decide))); have n1_ := am (blk_grown (g := gb295) (o := .cells #[.int .i64 x296000_1, .int .i64 x296001_1] 35 (0, 0)) (by (with_reducible repeat (first | refine Bk2 ?_ _ | refine Bk3 ?_ | refine Bk1 ?_ _)); exact BK295.out) hg (Kd.R_ne HO_3.out BK295.out (by decide))); have n2_ := am (hb); have n3_ := am (ho); clear BK294; clear BK295; clear HB; clear HO_3; have BK294 := n0_; have BK295 := n1_; have HB := n2_; have HO298 := n3_; clear n0_ n1_ n2_ n3_; clear ho hb hg hat) | ((with_reducible refine gate_dst (N := 25) rfl ?_); refine Kd.R_lit k35 _ 35 ?hg (N := 25) ?hd (xs := ([(⟨1, 0⟩ : S35), (⟨0, 1⟩ : S35), (⟨(-1), 0⟩ : S35), (⟨0, (-1)⟩ : S35)] : List (S35))) (inner := [.int .i64 1, .int .i64 0, .int .i64 0, .int .i64 1, .int .i64 (-1), .int .i64 0, .int .i64 0, .int .i64 (-1)]) (ok := fun _ => True) (okp := fun _ => True) ?hr ?hp (fun _ hk => hk) trivial (Below.refl _ _) (Nat.le_refl _) (by simp) ?_; (case hd => rfl); (case hg => rfl); (case hr => first | (go_simp; done) | (go_simp; rfl)); (case hp => exact (Reps.c2 (show Kd.M k35 _ _ _ (⟨1, 0⟩ : S35) [.int .i64 1, .int .i64 0] from (k35_mkM _ _ _ (⟨1, 0⟩ : S35) )) (Reps.c2 (show Kd.M k35 _ _ _ (⟨0, 1⟩ : S35) [.int .i64 0, .int .i64 1] from (k35_mkM _ _ _ (⟨0, 1⟩ : S35) )) (Reps.c2 (show Kd.M k35 _ _ _ (⟨(-1), 0⟩ : S35) [.int .i64 (-1), .int .i64 0] from (k35_mkM _ _ _ (⟨(-1), 0⟩ : S35) )) (Reps.c2 (show Kd.M k35 _ _ _ (⟨0, (-1)⟩ : S35) [.int .i64 0, .int .i64 (-1)] from (k35_mkM _ _ _ (⟨0, (-1)⟩ : S35) )) (Reps.none _ _)))))); intro v300 w62 ho63 hb hg_ hnew_; clear hg_ hnew_; (first | rw [← Ny299.out] at ho63 | (simp only [Int.reduceToNat] at ho63; rw [← Ny299.out] at ho63)); have n0_ := am (Kd.R_below (by (with_reducible repeat (first | apply Kd.R_alloc | apply Kd.R_drewN | apply Kd.R_drew)); exact HO298.out) hb); have n1_ := am (Kd.R_lower (Kd.R_newB (Kd.R_newB ho63 (g := gb294) (o := .cells #[.int .i64 ((rd_T35 l0 0).f0), .int .i64 ((rd_T35 l0 0).f1)] 35 (0, 0)) (by (with_reducible repeat (first | refine Bk2 ?_ _ | refine Bk3 ?_ | refine Bk1 ?_ _)); exact BK294.out)) (g := gb295) (o := .cells #[.int .i64 x296000_1, .int .i64 x296001_1] 35 (0, 0)) (by (with_reducible repeat (first | refine Bk2 ?_ _ | refine Bk3 ?_ | refine Bk1 ?_ _)); exact BK295.out)) (Bb5 (by repeat (first | (with_reducible first | exact HB.out | apply Bb1 | apply Bb2 | apply Bb3 | refine Bb4 ?_ GE294.out | refine Bb4 ?_ GE295.out) | exact HB.out)))); have n2_ := am (Bk4 (g := gb294) (o := .cells #[.int .i64 ((rd_T35 l0 0).f0), .int .i64 ((rd_T35 l0 0).f1)] 35 (0, 0)) (by (with_reducible repeat (first | refine Bk2 ?_ _ | refine Bk3 ?_ | refine Bk1 ?_ _)); exact BK294.out) hb); have n3_ := am (Bk4 (g := gb295) (o := .cells #[.int .i64 x296000_1, .int .i64 x296001_1] 35 (0, 0)) (by (with_reducible repeat (first | refine Bk2 ?_ _ | refine Bk3 ?_ | refine Bk1 ?_ _)); exact BK295.out) hb); have n4_ := am (Bb6 (by repeat (first | (with_reducible first | exact HB.out | apply Bb1 | apply Bb2 | apply Bb3 | refine Bb4 ?_ GE294.out | refine Bb4 ?_ GE295.out) | exact HB.out)) hb); clear HO298; clear BK294; clear BK295; clear HB; have HO298 := n0_; have HO301 := n1_; have BK294 := n2_; have BK295 := n3_; have HB := n4_; clear n0_ n1_ n2_ n3_ n4_; clear hb ho63))
              have n0_ := am (Kd.R_drew HO298.out)
              have n1_ := am (Kd.R_drew HO301.out)
              have n2_ := am (Bk3 BK294.out)
              have n3_ := am (Bk3 BK295.out)
              have n4_ := am (Bb3 HB.out)
              clear HO298
              clear HO301
              clear BK294
              clear BK295
              clear HB
              have HO298 := n0_
              have HO301 := n1_
              have BK294 := n2_
              have BK295 := n3_
              have HB := n4_
              clear n0_ n1_ n2_ n3_ n4_
              obtain ⟨Ao65, co65, eo65⟩ := Kd.R_slice HO301.out
              (first | subst eo65 | (injection eo65 with f1_ f2_ f3_; have f4_ := f1_.symm; have f5_ := f3_.symm; clear f1_ f2_ f3_; subst f4_; subst f5_))
              have p302 : 0 ≤ (x6_1 : Int) := of_decide_eq_true (by first | (with_reducible assumption) | assumption)
              have q302 : x6_1 < (y299.length : Int) := of_decide_eq_true (by first | (with_reducible assumption) | assumption)
              obtain ⟨ad302, e302, hx302_0, hx302_1⟩ := at_T35 (Kd.R_reads' HO301.out).2.2 x6_1 p302 q302
              cases e302
              replace p302 := eq_true p302
              replace q302 := eq_true q302
              have p303 : 0 ≤ (x6_1 : Int) := of_decide_eq_true (by first | (with_reducible assumption) | assumption)
              have q303 : x6_1 < (y299.length : Int) := of_decide_eq_true (by first | (with_reducible assumption) | assumption)
              obtain ⟨ad303, e303, hx303_0, hx303_1⟩ := at_T35 (Kd.R_reads' HO301.out).2.2 x6_1 p303 q303
              obtain rfl : ad302 = ad303 := (by injection e303)
              replace p303 := eq_true p303
              replace q303 := eq_true q303
              refine start_ (n := 18) (S := fun w' => w'.cell? ⟨gb295, 0, none⟩ = some (.int .i64 x296000_1) ∧ w'.cell? ⟨gb295, 1, none⟩ = some (.int .i64 x296001_1) ∧ w'.cell? (ad302.add ((x6_1).toNat * 2)) = some (.int .i64 ((rd_T35 y299 x6_1).f0)) ∧ w'.cell? ⟨(ad302.add ((x6_1).toNat * 2)).block, (ad302.add ((x6_1).toNat * 2)).off + 1, none⟩ = some (.int .i64 ((rd_T35 y299 x6_1).f1)) ∧ w'.cell? (ad302.add ((x6_1).toNat * 2)) = some (.int .i64 ((rd_T35 y299 x6_1).f0)) ∧ w'.cell? ⟨(ad302.add ((x6_1).toNat * 2)).block, (ad302.add ((x6_1).toNat * 2)).off + 1, none⟩ = some (.int .i64 ((rd_T35 y299 x6_1).f1))) (ds := [17]) spec_l23Word.m0 (by kernel_rfl) rfl rfl ⟨(kc BK295.out 0).trans rfl, (kc BK295.out 1).trans rfl, hx302_0, hx302_1, hx303_0, hx303_1⟩ (fun hHeld => ?_); refine with_tabW spec_l23Word.tab7 spec_l23Word.bits7 (fun HT_ HW_ => ?_)
              generalize w62.drew = w64 at HO298 HO301 BK294 BK295 HB hx302_0 hx302_1 hx303_0 hx303_1 hHeld ⊢
              refine pure_ (i := 0) (N := some 26) (v := ?_) (a' := ?_) spec_l23Word.m2 rfl rfl (any_of HT_.out (by kernel_rfl)) (fun _ _ _ h => h) (Or.inl ⟨by rfl, ?_⟩) ?_ ?_
              rotate_left
              ·intro w'
               go_simp
               with_reducible rfl
              rotate_left
              ·simp only [Act.put, sa, i64_w, i32_w]
               rfl
              refine pure_ (i := 2) (N := some 28) (v := ?_) (a' := ?_) spec_l23Word.m4 rfl rfl (any_of HT_.out (by kernel_rfl)) (fun _ _ _ h => h) (Or.inl ⟨by rfl, ?_⟩) ?_ ?_
              rotate_left
              ·intro w'
               go_simp
               with_reducible rfl
              rotate_left
              ·simp only [Act.put, sa, i64_w, i32_w]
               rfl
              refine pure_ (i := 3) (N := some 29) (v := ?_) (a' := ?_) spec_l23Word.m5 rfl rfl (any_of HT_.out (by kernel_rfl)) (fun _ _ _ h => h) (Or.inl ⟨by rfl, ?_⟩) ?_ ?_
              rotate_left
              ·intro w'
               go_simp
               with_reducible rfl
              rotate_left
              ·simp only [Act.put, sa, i64_w, i32_w]
               rfl
              refine pure_ (i := 4) (N := some 30) (v := ?_) (a' := ?_) spec_l23Word.m6 rfl rfl (any_of HT_.out (by kernel_rfl)) (fun _ _ _ h => h) (Or.inl ⟨by rfl, ?_⟩) ?_ ?_
              rotate_left
              ·intro w'
               go_simp
               with_reducible rfl
              rotate_left
              ·simp only [Act.put, sa, i64_w, i32_w]
               rfl
              refine pure_ (i := 5) (N := some 31) (v := ?_) (a' := ?_) spec_l23Word.m7 rfl rfl (any_of HT_.out (by kernel_rfl)) (fun _ _ _ h => h) (Or.inl ⟨by rfl, ?_⟩) ?_ ?_
              rotate_left
              ·intro w'
               go_simp
               with_reducible rfl
              rotate_left
              ·simp only [Act.put, sa, i64_w, i32_w]
               rfl
              refine pure_ (i := 8) (N := some 34) (v := ?_) (a' := ?_) spec_l23Word.m8 rfl rfl (any_of HT_.out (by kernel_rfl)) (fun _ _ _ h => h) (Or.inl ⟨by rfl, ?_⟩) ?_ ?_
              rotate_left
              ·intro w'
               go_simp
               with_reducible rfl
              rotate_left
              ·simp only [Act.put, sa, i64_w, i32_w]
               rfl
              refine pure_ (i := 10) (N := some 36) (v := ?_) (a' := ?_) spec_l23Word.m9 rfl rfl (any_of HT_.out (by kernel_rfl)) (fun _ _ _ h => h) (Or.inl ⟨by rfl, ?_⟩) ?_ ?_
              rotate_left
              ·intro w'
               go_simp
               with_reducible rfl
              rotate_left
              ·simp only [Act.put, sa, i64_w, i32_w]
               rfl
              refine pure_ (i := 11) (N := some 37) (v := ?_) (a' := ?_) spec_l23Word.m10 rfl rfl (any_of HT_.out (by kernel_rfl)) (fun _ _ _ h => h) (Or.inl ⟨by rfl, ?_⟩) ?_ ?_
              rotate_left
              ·intro w'
               go_simp
               with_reducible rfl
              rotate_left
              ·simp only [Act.put, sa, i64_w, i32_w]
               rfl
              refine pure_ (i := 12) (N := some 38) (v := ?_) (a' := ?_) spec_l23Word.m11 rfl rfl (any_of HT_.out (by kernel_rfl)) (fun _ _ _ h => h) (Or.inl ⟨by rfl, ?_⟩) ?_ ?_
              rotate_left
              ·intro w'
               go_simp
               with_reducible rfl
              rotate_left
              ·simp only [Act.put, sa, i64_w, i32_w]
               rfl
              refine pure_ (i := 13) (N := some 39) (v := ?_) (a' := ?_) spec_l23Word.m12 rfl rfl (any_of HT_.out (by kernel_rfl)) (fun _ _ _ h => h) (Or.inl ⟨by rfl, ?_⟩) ?_ ?_
              rotate_left
              ·intro w'
               go_simp
               with_reducible rfl
              rotate_left
              ·simp only [Act.put, sa, i64_w, i32_w]
               rfl
              refine take_ (i := 1) (N := some 27) (v := ?_) (a' := ?_) spec_l23Word.m20 rfl rfl (take_ofW HT_.out HW_.out (by kernel_rfl)) (fun _ _ _ h => h) (Or.inl ⟨by rfl, ?_⟩) hHeld ?_ ?_
              rotate_left
              ·rintro w' ⟨s0, s1, s2, s3, s4, s5⟩
               go_simp
               with_reducible rfl
              rotate_left
              ·simp only [Act.put, sa, i64_w, i32_w]
               rfl
              refine take_ (i := 6) (N := some 32) (v := ?_) (a' := ?_) spec_l23Word.m21 rfl rfl (take_ofW HT_.out HW_.out (by kernel_rfl)) (fun _ _ _ h => h) (Or.inl ⟨by rfl, ?_⟩) hHeld ?_ ?_
              rotate_left
              ·rintro w' ⟨s0, s1, s2, s3, s4, s5⟩
               go_simp
               with_reducible rfl
              rotate_left
              ·simp only [Act.put, sa, i64_w, i32_w]
               rfl
              refine pure_ (i := 7) (N := some 33) (v := ?_) (a' := ?_) spec_l23Word.m23 rfl rfl (any_of HT_.out (by kernel_rfl)) (fun _ _ _ h => h) (Or.inl ⟨by rfl, ?_⟩) ?_ ?_
              rotate_left
              ·intro w'
               go_simp
               with_reducible rfl
              rotate_left
              ·simp only [Act.put, sa, i64_w, i32_w]
               rfl
              refine take_ (i := 9) (N := some 35) (v := ?_) (a' := ?_) spec_l23Word.m29 rfl rfl (take_ofW HT_.out HW_.out (by kernel_rfl)) (fun _ _ _ h => h) (Or.inl ⟨by rfl, ?_⟩) hHeld ?_ ?_
              rotate_left
              ·rintro w' ⟨s0, s1, s2, s3, s4, s5⟩
               go_simp
               with_reducible rfl
              rotate_left
              ·simp only [Act.put, sa, i64_w, i32_w]
               rfl
              refine take_ (i := 14) (N := some 40) (v := ?_) (a' := ?_) spec_l23Word.m30 rfl rfl (take_ofW HT_.out HW_.out (by kernel_rfl)) (fun _ _ _ h => h) (Or.inl ⟨by rfl, ?_⟩) hHeld ?_ ?_
              rotate_left
              ·rintro w' ⟨s0, s1, s2, s3, s4, s5⟩
               go_simp
               with_reducible rfl
              rotate_left
              ·simp only [Act.put, sa, i64_w, i32_w]
               rfl
              refine pure_ (i := 15) (N := some 41) (v := ?_) (a' := ?_) spec_l23Word.m31 rfl rfl (any_of HT_.out (by kernel_rfl)) (fun _ _ _ h => h) (Or.inl ⟨by rfl, ?_⟩) ?_ ?_
              rotate_left
              ·intro w'
               go_simp
               with_reducible rfl
              rotate_left
              ·simp only [Act.put, sa, i64_w, i32_w]
               rfl
              refine pure_ (i := 16) (N := some 42) (v := ?_) (a' := ?_) spec_l23Word.m32 rfl rfl (any_of HT_.out (by kernel_rfl)) (fun _ _ _ h => h) (Or.inl ⟨by rfl, ?_⟩) ?_ ?_
              rotate_left
              ·intro w'
               go_simp
               with_reducible rfl
              rotate_left
              ·simp only [Act.put, sa, i64_w, i32_w]
               rfl
              refine last_ (i := 17) (N := none) spec_l23Word.m33 rfl rfl (one_of HT_.out (by kernel_rfl)) (by decide) (fun K hK => ?_)
              have hs66 : w64.cell? ⟨gb295, 0, none⟩ = some (.int .i64 x296000_1) := (kc BK295.out 0).trans rfl
              have hfs66 := kf BK295.out 0
              have hns66_0 := NB294_295.out
              have hms66_0 := NB295_294.out
              have hs67 : w64.cell? ⟨gb295, 1, none⟩ = some (.int .i64 x296001_1) := (kc BK295.out 1).trans rfl
              have hfs67 := kf BK295.out 1
              have hns67_0 := NB294_295.out
              have hms67_0 := NB295_294.out
              refine skip_ (w1 := ?_) (by rfl) rfl ?_ ?_
              rotate_left
              ·go_simp
               rfl
              refine hK.out _ _ ?_
              clear hK K
              refine done_ (done_of HT_.out (by kernel_rfl)) ?_
              have hnb68 := NB295_294.out
              have hnc68 := NB294_295.out
              have hcz69_0 : w64.cell? ⟨gb295, 0, none⟩ = some (.int .i64 x296000_1) := (kc BK295.out 0).trans rfl
              have hcz69_1 : w64.cell? ⟨gb295, 1, none⟩ = some (.int .i64 x296001_1) := (kc BK295.out 1).trans rfl
              have hfz69_0 := kf BK295.out 0
              have hfz69_1 := kf BK295.out 1
              have hcz70_0 : w64.cell? ⟨gb294, 0, none⟩ = some (.int .i64 ((rd_T35 l0 0).f0)) := (kc BK294.out 0).trans rfl
              have hcz70_1 : w64.cell? ⟨gb294, 1, none⟩ = some (.int .i64 ((rd_T35 l0 0).f1)) := (kc BK294.out 1).trans rfl
              have hfz70_0 := kf BK294.out 0
              have hfz70_1 := kf BK294.out 1
              try go_wp2_with (first | ((with_reducible refine gate_dst (N := 68) rfl ?_); refine Kd.R_lit k35 _ 35 ?hg (N := 68) ?hd (xs := ([(⟨wrap64 (x296000_1 + ((rd_T35 y299 x6_1).f0)), wrap64 ((wrap64 (x296001_1 + ((rd_T35 y299 x6_1).f1))) - 1)⟩ : S35), (⟨wrap64 (x296000_1 + ((rd_T35 y299 x6_1).f0)), wrap64 (x296001_1 + ((rd_T35 y299 x6_1).f1))⟩ : S35), (⟨wrap64 ((wrap64 (x296000_1 + ((rd_T35 y299 x6_1).f0))) - 1), wrap64 (x296001_1 + ((rd_T35 y299 x6_1).f1))⟩ : S35), (⟨wrap64 ((wrap64 (x296000_1 + ((rd_T35 y299 x6_1).f0))) - 1), wrap64 ((wrap64 (x296001_1 + ((rd_T35 y299 x6_1).f1))) - 1)⟩ : S35)] : List (S35))) (inner := [.int .i64 (wrap64 (x296000_1 + ((rd_T35 y299 x6_1).f0))), .int .i64 (wrap64 ((wrap64 (x296001_1 + ((rd_T35 y299 x6_1).f1))) - 1)), .int .i64 (wrap64 (x296000_1 + ((rd_T35 y299 x6_1).f0))), .int .i64 (wrap64 (x296001_1 + ((rd_T35 y299 x6_1).f1))), .int .i64 (wrap64 ((wrap64 (x296000_1 + ((rd_T35 y299 x6_1).f0))) - 1)), .int .i64 (wrap64 (x296001_1 + ((rd_T35 y299 x6_1).f1))), .int .i64 (wrap64 ((wrap64 (x296000_1 + ((rd_T35 y299 x6_1).f0))) - 1)), .int .i64 (wrap64 ((wrap64 (x296001_1 + ((rd_T35 y299 x6_1).f1))) - 1))]) (ok := fun _ => True) (okp := fun _ => True) ?hr ?hp (fun _ hk => hk) trivial (Below.refl _ _) (Nat.le_refl _) (by simp) ?_; (case hd => rfl); (case hg => rfl); (case hr => first | (go_simp; done) | (go_simp; rfl)); (case hp => exact (Reps.c2 (show Kd.M k35 _ _ _ (⟨wrap64 (x296000_1 + ((rd_T35 y299 x6_1).f0)), wrap64 ((wrap64 (x296001_1 + ((rd_T35 y299 x6_1).f1))) - 1)⟩ : S35) [.int .i64 (wrap64 (x296000_1 + ((rd_T35 y299 x6_1).f0))), .int .i64 (wrap64 ((wrap64 (x296001_1 + ((rd_T35 y299 x6_1).f1))) - 1))] from (k35_mkM _ _ _ (⟨wrap64 (x296000_1 + ((rd_T35 y299 x6_1).f0)), wrap64 ((wrap64 (x296001_1 + ((rd_T35 y299 x6_1).f1))) - 1)⟩ : S35) )) (Reps.c2 (show Kd.M k35 _ _ _ (⟨wrap64 (x296000_1 + ((rd_T35 y299 x6_1).f0)), wrap64 (x296001_1 + ((rd_T35 y299 x6_1).f1))⟩ : S35) [.int .i64 (wrap64 (x296000_1 + ((rd_T35 y299 x6_1).f0))), .int .i64 (wrap64 (x296001_1 + ((rd_T35 y299 x6_1).f1)))] from (k35_mkM _ _ _ (⟨wrap64 (x296000_1 + ((rd_T35 y299 x6_1).f0)), wrap64 (x296001_1 + ((rd_T35 y299 x6_1).f1))⟩ : S35) )) (Reps.c2 (show Kd.M k35 _ _ _ (⟨wrap64 ((wrap64 (x296000_1 + ((rd_T35 y299 x6_1).f0))) - 1), wrap64 (x296001_1 + ((rd_T35 y299 x6_1).f1))⟩ : S35) [.int .i64 (wrap64 ((wrap64 (x296000_1 + ((rd_T35 y299 x6_1).f0))) - 1)), .int .i64 (wrap64 (x296001_1 + ((rd_T35 y299 x6_1).f1)))] from (k35_mkM _ _ _ (⟨wrap64 ((wrap64 (x296000_1 + ((rd_T35 y299 x6_1).f0))) - 1), wrap64 (x296001_1 + ((rd_T35 y299 x6_1).f1))⟩ : S35) )) (Reps.c2 (show Kd.M k35 _ _ _ (⟨wrap64 ((wrap64 (x296000_1 + ((rd_T35 y299 x6_1).f0))) - 1), wrap64 ((wrap64 (x296001_1 + ((rd_T35 y299 x6_1).f1))) - 1)⟩ : S35) [.int .i64 (wrap64 ((wrap64 (x296000_1 + ((rd_T35 y299 x6_1).f0))) - 1)), .int .i64 (wrap64 ((wrap64 (x296001_1 + ((rd_T35 y299 x6_1).f1))) - 1))] from (k35_mkM _ _ _ (⟨wrap64 ((wrap64 (x296000_1 + ((rd_T35 y299 x6_1).f0))) - 1), wrap64 ((wrap64 (x296001_1 + ((rd_T35 y299 x6_1).f1))) - 1)⟩ : S35) )) (Reps.none _ _)))))); intro v305 w71 ho72 hb hg_ hnew_; clear hg_ hnew_; (first | rw [← Ny304.out] at ho72 | (simp only [Int.reduceToNat] at ho72; rw [← Ny304.out] at ho72)); have n0_ := am (Kd.R_below (by (with_reducible repeat (first | apply Kd.R_alloc | apply Kd.R_drewN | apply Kd.R_drew)); exact (Kd.R_mono (Kd.R_far (p := ⟨gb295, 1, none⟩) (Kd.R_far (p := ⟨gb295, 0, none⟩) (Kd.R_types HO298.out BK295.out (by decide)) (fun _ hk => hk.2) (.int .i64 (wrap64 (x296000_1 + ((rd_T35 y299 x6_1).f0))))) (fun _ hk => hk.2) (.int .i64 (wrap64 (x296001_1 + ((rd_T35 y299 x6_1).f1))))) (fun _ h_ => h_.1))) hb); have n1_ := am (Kd.R_elder' (by (with_reducible repeat (first | apply Kd.R_alloc | apply Kd.R_drewN | apply Kd.R_drew)); exact (Kd.R_mono (Kd.R_far (p := ⟨gb295, 1, none⟩) (Kd.R_far (p := ⟨gb295, 0, none⟩) (Kd.R_mono HO301.out (fun k_ hk => (⟨hk, hk.2⟩ : _ ∧ k_ ≠ gb295))) (fun _ hk => hk.2) (.int .i64 (wrap64 (x296000_1 + ((rd_T35 y299 x6_1).f0))))) (fun _ hk => hk.2) (.int .i64 (wrap64 (x296001_1 + ((rd_T35 y299 x6_1).f1))))) (fun _ h_ => h_.1))) (Kd.R_base ho72) hb); have n2_ := am (Kd.R_lower (Kd.R_newB (Kd.R_newB (Kd.R_new' ho72 (Kd.R_lt (by (with_reducible repeat (first | apply Kd.R_alloc | apply Kd.R_drewN | apply Kd.R_drew)); exact (Kd.R_mono (Kd.R_far (p := ⟨gb295, 1, none⟩) (Kd.R_far (p := ⟨gb295, 0, none⟩) (Kd.R_mono HO301.out (fun k_ hk => (⟨hk, hk.2⟩ : _ ∧ k_ ≠ gb295))) (fun _ hk => hk.2) (.int .i64 (wrap64 (x296000_1 + ((rd_T35 y299 x6_1).f0))))) (fun _ hk => hk.2) (.int .i64 (wrap64 (x296001_1 + ((rd_T35 y299 x6_1).f1))))) (fun _ h_ => h_.1))))) (g := gb294) (o := .cells #[.int .i64 ((rd_T35 l0 0).f0), .int .i64 ((rd_T35 l0 0).f1)] 35 (0, 0)) (by (with_reducible repeat (first | refine Bk2 ?_ _ | refine Bk3 ?_ | refine Bk1 ?_ _)); refine blk_far ?_ NB294_295.out _; (with_reducible repeat (first | refine Bk2 ?_ _ | refine Bk3 ?_ | refine Bk1 ?_ _)); refine blk_far ?_ NB294_295.out _; (with_reducible repeat (first | refine Bk2 ?_ _ | refine Bk3 ?_ | refine Bk1 ?_ _)); exact BK294.out)) (g := gb295) (o := .cells #[.int .i64 (wrap64 (x296000_1 + ((rd_T35 y299 x6_1).f0))), .int .i64 (wrap64 (x296001_1 + ((rd_T35 y299 x6_1).f1)))] 35 (0, 0)) (by (with_reducible repeat (first | refine Bk2 ?_ _ | refine Bk3 ?_ | refine Bk1 ?_ _)); refine blk_put (cs := #[.int .i64 (wrap64 (x296000_1 + ((rd_T35 y299 x6_1).f0))), .int .i64 x296001_1]) ?_ 1 _ rfl; (with_reducible repeat (first | refine Bk2 ?_ _ | refine Bk3 ?_ | refine Bk1 ?_ _)); refine blk_put (cs := #[.int .i64 x296000_1, .int .i64 x296001_1]) ?_ 0 _ rfl; (with_reducible repeat (first | refine Bk2 ?_ _ | refine Bk3 ?_ | refine Bk1 ?_ _)); exact BK295.out)) (Bb5 (by repeat (first | (with_reducible first | exact HB.out | apply Bb1 | apply Bb2 | apply Bb3 | refine Bb4 ?_ GE294.out | refine Bb4 ?_ GE295.out) | exact HB.out)))); have n3_ := am (Bk4 (g := gb294) (o := .cells #[.int .i64 ((rd_T35 l0 0).f0), .int .i64 ((rd_T35 l0 0).f1)] 35 (0, 0)) (by (with_reducible repeat (first | refine Bk2 ?_ _ | refine Bk3 ?_ | refine Bk1 ?_ _)); refine blk_far ?_ NB294_295.out _; (with_reducible repeat (first | refine Bk2 ?_ _ | refine Bk3 ?_ | refine Bk1 ?_ _)); refine blk_far ?_ NB294_295.out _; (with_reducible repeat (first | refine Bk2 ?_ _ | refine Bk3 ?_ | refine Bk1 ?_ _)); exact BK294.out) hb); have n4_ := am (Bk4 (g := gb295) (o := .cells #[.int .i64 (wrap64 (x296000_1 + ((rd_T35 y299 x6_1).f0))), .int .i64 (wrap64 (x296001_1 + ((rd_T35 y299 x6_1).f1)))] 35 (0, 0)) (by (with_reducible repeat (first | refine Bk2 ?_ _ | refine Bk3 ?_ | refine Bk1 ?_ _)); refine blk_put (cs := #[.int .i64 (wrap64 (x296000_1 + ((rd_T35 y299 x6_1).f0))), .int .i64 x296001_1]) ?_ 1 _ rfl; (with_reducible repeat (first | refine Bk2 ?_ _ | refine Bk3 ?_ | refine Bk1 ?_ _)); refine blk_put (cs := #[.int .i64 x296000_1, .int .i64 x296001_1]) ?_ 0 _ rfl; (with_reducible repeat (first | refine Bk2 ?_ _ | refine Bk3 ?_ | refine Bk1 ?_ _)); exact BK295.out) hb); have n5_ := am (Bb6 (by repeat (first | (with_reducible first | exact HB.out | apply Bb1 | apply Bb2 | apply Bb3 | refine Bb4 ?_ GE294.out | refine Bb4 ?_ GE295.out) | exact HB.out)) hb); clear HO298; clear HO301; clear BK294; clear BK295; clear HB; have HO298 := n0_; have HO301 := n1_; have HO306 := n2_; have BK294 := n3_; have BK295 := n4_; have HB := n5_; clear n0_ n1_ n2_ n3_ n4_ n5_; clear hb ho72))
              have n0_ := am (Kd.R_drew HO298.out)
              have n1_ := am (Kd.R_drew HO301.out)
              have n2_ := am (Kd.R_drew HO306.out)
              have n3_ := am (Bk3 BK294.out)
              have n4_ := am (Bk3 BK295.out)
              have n5_ := am (Bb3 HB.out)
              clear HO298
              clear HO301
              clear HO306
              clear BK294
              clear BK295
              clear HB
              have HO298 := n0_
              have HO301 := n1_
              have HO306 := n2_
              have BK294 := n3_
              have BK295 := n4_
              have HB := n5_
              clear n0_ n1_ n2_ n3_ n4_ n5_
              obtain ⟨Ao74, co74, eo74⟩ := Kd.R_slice HO306.out
              (first | subst eo74 | (injection eo74 with f1_ f2_ f3_; have f4_ := f1_.symm; have f5_ := f3_.symm; clear f1_ f2_ f3_; subst f4_; subst f5_))
              have p307 : 0 ≤ (x6_1 : Int) := of_decide_eq_true (by first | (with_reducible assumption) | assumption)
              have q307 : x6_1 < (y304.length : Int) := of_decide_eq_true (by first | (with_reducible assumption) | assumption)
              obtain ⟨ad307, e307, hx307_0, hx307_1⟩ := at_T35 (Kd.R_reads' HO306.out).2.2 x6_1 p307 q307
              cases e307
              replace p307 := eq_true p307
              replace q307 := eq_true q307
              have p308 : 0 ≤ ((ji28) : Int) := of_decide_eq_true (by first | (with_reducible assumption) | assumption)
              have q308 : (ji28) < (y304.length : Int) := of_decide_eq_true (by first | (with_reducible assumption) | assumption)
              obtain ⟨ad308, e308, hx308_0, hx308_1⟩ := at_T35 (Kd.R_reads' HO306.out).2.2 (ji28) p308 q308
              obtain rfl : ad307 = ad308 := (by injection e308)
              replace p308 := eq_true p308
              replace q308 := eq_true q308
              refine start_ (n := 14) (S := fun w' => w'.cell? (ad307.add ((x6_1).toNat * 2)) = some (.int .i64 ((rd_T35 y304 x6_1).f0)) ∧ w'.cell? ⟨(ad307.add ((x6_1).toNat * 2)).block, (ad307.add ((x6_1).toNat * 2)).off + 1, none⟩ = some (.int .i64 ((rd_T35 y304 x6_1).f1)) ∧ w'.cell? (ad307.add (((ji28)).toNat * 2)) = some (.int .i64 ((rd_T35 y304 (ji28)).f0)) ∧ w'.cell? ⟨(ad307.add (((ji28)).toNat * 2)).block, (ad307.add (((ji28)).toNat * 2)).off + 1, none⟩ = some (.int .i64 ((rd_T35 y304 (ji28)).f1))) (ds := []) spec_l23Word.m1 (by kernel_rfl) rfl rfl ⟨hx307_0, hx307_1, hx308_0, hx308_1⟩ (fun hHeld => ?_); refine with_tabW spec_l23Word.tab11 spec_l23Word.bits11 (fun HT_ HW_ => ?_)
              generalize w71.drew = w73 at HO298 HO301 HO306 BK294 BK295 HB hx307_0 hx307_1 hx308_0 hx308_1 hHeld ⊢
              refine pure_ (i := 0) (N := some 69) (v := ?_) (a' := ?_) spec_l23Word.m3 rfl rfl (any_of HT_.out (by kernel_rfl)) (fun _ _ _ h => h) (Or.inl ⟨by rfl, ?_⟩) ?_ ?_
              rotate_left
              ·intro w'
               go_simp
               with_reducible rfl
              rotate_left
              ·simp only [Act.put, sa, i64_w, i32_w]
               rfl
              refine pure_ (i := 1) (N := some 70) (v := ?_) (a' := ?_) spec_l23Word.m13 rfl rfl (any_of HT_.out (by kernel_rfl)) (fun _ _ _ h => h) (Or.inl ⟨by rfl, ?_⟩) ?_ ?_
              rotate_left
              ·intro w'
               go_simp
               with_reducible rfl
              rotate_left
              ·simp only [Act.put, sa, i64_w, i32_w]
               rfl
              refine pure_ (i := 2) (N := some 71) (v := ?_) (a' := ?_) spec_l23Word.m14 rfl rfl (any_of HT_.out (by kernel_rfl)) (fun _ _ _ h => h) (Or.inl ⟨by rfl, ?_⟩) ?_ ?_
              rotate_left
              ·intro w'
               go_simp
               with_reducible rfl
              rotate_left
              ·simp only [Act.put, sa, i64_w, i32_w]
               rfl
              refine pure_ (i := 4) (N := some 73) (v := ?_) (a' := ?_) spec_l23Word.m15 rfl rfl (any_of HT_.out (by kernel_rfl)) (fun _ _ _ h => h) (Or.inl ⟨by rfl, ?_⟩) ?_ ?_
              rotate_left
              ·intro w'
               go_simp
               with_reducible rfl
              rotate_left
              ·simp only [Act.put, sa, i64_w, i32_w]
               rfl
              refine pure_ (i := 5) (N := some 74) (v := ?_) (a' := ?_) spec_l23Word.m16 rfl rfl (any_of HT_.out (by kernel_rfl)) (fun _ _ _ h => h) (Or.inl ⟨by rfl, ?_⟩) ?_ ?_
              rotate_left
              ·intro w'
               go_simp
               with_reducible rfl
              rotate_left
              ·simp only [Act.put, sa, i64_w, i32_w]
               rfl
              refine pure_ (i := 6) (N := some 75) (v := ?_) (a' := ?_) spec_l23Word.m17 rfl rfl (any_of HT_.out (by kernel_rfl)) (fun _ _ _ h => h) (Or.inl ⟨by rfl, ?_⟩) ?_ ?_
              rotate_left
              ·intro w'
               go_simp
               with_reducible rfl
              rotate_left
              ·simp only [Act.put, sa, i64_w, i32_w]
               rfl
              refine pure_ (i := 7) (N := some 76) (v := ?_) (a' := ?_) spec_l23Word.m18 rfl rfl (any_of HT_.out (by kernel_rfl)) (fun _ _ _ h => h) (Or.inl ⟨by rfl, ?_⟩) ?_ ?_
              rotate_left
              ·intro w'
               go_simp
               with_reducible rfl
              rotate_left
              ·simp only [Act.put, sa, i64_w, i32_w]
               rfl
              refine pure_ (i := 8) (N := some 77) (v := ?_) (a' := ?_) spec_l23Word.m19 rfl rfl (any_of HT_.out (by kernel_rfl)) (fun _ _ _ h => h) (Or.inl ⟨by rfl, ?_⟩) ?_ ?_
              rotate_left
              ·intro w'
               go_simp
               with_reducible rfl
              rotate_left
              ·simp only [Act.put, sa, i64_w, i32_w]
               rfl
              refine take_ (i := 3) (N := some 72) (v := ?_) (a' := ?_) spec_l23Word.m22 rfl rfl (take_ofW HT_.out HW_.out (by kernel_rfl)) (fun _ _ _ h => h) (Or.inl ⟨by rfl, ?_⟩) hHeld ?_ ?_
              rotate_left
              ·rintro w' ⟨s0, s1, s2, s3⟩
               go_simp
               with_reducible rfl
              rotate_left
              ·simp only [Act.put, sa, i64_w, i32_w]
               rfl
              refine take_ (i := 9) (N := some 78) (v := ?_) (a' := ?_) spec_l23Word.m24 rfl rfl (take_ofW HT_.out HW_.out (by kernel_rfl)) (fun _ _ _ h => h) (Or.inl ⟨by rfl, ?_⟩) hHeld ?_ ?_
              rotate_left
              ·rintro w' ⟨s0, s1, s2, s3⟩
               go_simp
               with_reducible rfl
              rotate_left
              ·simp only [Act.put, sa, i64_w, i32_w]
               rfl
              refine join_ (σ := Nat × Nat) 2 spec_l23Word.m27 (fun s_ => [(9, .pointer (some ⟨s_.1, 0, none⟩)), (10, .pointer (some ⟨s_.2, 0, none⟩))]) (fun s_ w' => (w'.cell? (ad307.add ((x6_1).toNat * 2)) = some (.int .i64 ((rd_T35 y304 x6_1).f0)) ∧ w'.cell? ⟨(ad307.add ((x6_1).toNat * 2)).block, (ad307.add ((x6_1).toNat * 2)).off + 1, none⟩ = some (.int .i64 ((rd_T35 y304 x6_1).f1)) ∧ w'.cell? (ad307.add (((ji28)).toNat * 2)) = some (.int .i64 ((rd_T35 y304 (ji28)).f0)) ∧ w'.cell? ⟨(ad307.add (((ji28)).toNat * 2)).block, (ad307.add (((ji28)).toNat * 2)).off + 1, none⟩ = some (.int .i64 ((rd_T35 y304 (ji28)).f1))) ∧ (Kd.R (Kd.int .u8) 5 w' w.heap.size (fun _ => True) v297 y296) ∧ (Kd.R k35 35 w' w.heap.size (fun k_ => some k_ ≠ (.slice (some ad307) y304.length co74 : Value).ownBlock ∧ k_ ≠ gb294 ∧ k_ ≠ gb295 ∧ k_ ≠ s_.1 ∧ k_ ≠ s_.2) (.slice (some ad302) y299.length co65) y299) ∧ (Kd.R k35 35 w' w.heap.size (fun k_ => some k_ ≠ (.slice (some ad302) y299.length co65 : Value).ownBlock ∧ k_ ≠ gb294 ∧ k_ ≠ gb295 ∧ k_ ≠ s_.1 ∧ k_ ≠ s_.2) (.slice (some ad307) y304.length co74) y304) ∧ (w'.heap[gb294]? = some (.cells #[.int .i64 ((rd_T35 l0 0).f0), .int .i64 ((rd_T35 l0 0).f1)] 35 (0, 0))) ∧ (w'.heap[gb295]? = some (.cells #[.int .i64 (wrap64 (x296000_1 + ((rd_T35 y299 x6_1).f0))), .int .i64 (wrap64 (x296001_1 + ((rd_T35 y299 x6_1).f1)))] 35 (0, 0))) ∧ (w'.heap[s_.1]? = some (.cells #[.int .i64 0, .int .i64 0] 35 (0, 0))) ∧ (w'.heap[s_.2]? = some (.cells #[.int .i64 0, .int .i64 0] 35 (0, 0))) ∧ (w.heap.size ≤ s_.1) ∧ (w.heap.size ≤ s_.1) ∧ (gb294 ≠ s_.1) ∧ (s_.1 ≠ gb294) ∧ (gb295 ≠ s_.1) ∧ (s_.1 ≠ gb295) ∧ (s_.2 ≠ s_.1) ∧ (s_.1 ≠ s_.2) ∧ (w.heap.size ≤ s_.2) ∧ (w.heap.size ≤ s_.2) ∧ (gb294 ≠ s_.2) ∧ (s_.2 ≠ gb294) ∧ (gb295 ≠ s_.2) ∧ (s_.2 ≠ gb295) ∧ (Below w.heap.size w w')) ?_ ?_
              rotate_left
              ·intro hCont
               refine two_ (i := 10) (j := 11) (Ni := some 9) (Nj := some 10) spec_l23Word.m26 spec_l23Word.m25 rfl rfl rfl rfl (two_of HT_.out (by kernel_rfl)) (by decide) (by decide) (fun K hK => ?_) (fun K hK => ?_)
               ·skip
                refine box_step ?hg (N := 9) ?hd (cs := #[.int .i64 0, .int .i64 0]) (t := 35) ?hr ?_; (case hd => rfl); (case hg => rfl); (case hr => first | (go_simp; done) | (go_simp; rfl))
                intro gb309 hg w75 hbox hb
                have HS0_ := (hb.cell (World.block_lt_of_cell? _ _ (hHeld.1))).trans (hHeld.1)
                have HS1_ := (hb.cell (World.block_lt_of_cell? _ _ (hHeld.2.1))).trans (hHeld.2.1)
                have HS2_ := (hb.cell (World.block_lt_of_cell? _ _ (hHeld.2.2.1))).trans (hHeld.2.2.1)
                have HS3_ := (hb.cell (World.block_lt_of_cell? _ _ (hHeld.2.2.2))).trans (hHeld.2.2.2)
                have n0_ := am (Kd.R_below (by (with_reducible repeat (first | apply Kd.R_alloc | apply Kd.R_drewN | apply Kd.R_drew)); exact HO298.out) hb)
                have n1_ := am (Kd.R_below (Kd.R_elderB (by (with_reducible repeat (first | apply Kd.R_alloc | apply Kd.R_drewN | apply Kd.R_drew)); exact HO301.out) gb309 (Nat.le_of_eq hg.symm)) hb)
                have n2_ := am (Kd.R_below (Kd.R_elderB (by (with_reducible repeat (first | apply Kd.R_alloc | apply Kd.R_drewN | apply Kd.R_drew)); exact HO306.out) gb309 (Nat.le_of_eq hg.symm)) hb)
                have n3_ := am (Bk4 (g := gb294) (o := .cells #[.int .i64 ((rd_T35 l0 0).f0), .int .i64 ((rd_T35 l0 0).f1)] 35 (0, 0)) (by (with_reducible repeat (first | refine Bk2 ?_ _ | refine Bk3 ?_ | refine Bk1 ?_ _)); exact BK294.out) hb)
                have n4_ := am (Bk4 (g := gb295) (o := .cells #[.int .i64 (wrap64 (x296000_1 + ((rd_T35 y299 x6_1).f0))), .int .i64 (wrap64 (x296001_1 + ((rd_T35 y299 x6_1).f1)))] 35 (0, 0)) (by (with_reducible repeat (first | refine Bk2 ?_ _ | refine Bk3 ?_ | refine Bk1 ?_ _)); exact BK295.out) hb)
                have n5_ := am (Bb6 (by repeat (first | (with_reducible first | exact HB.out | apply Bb1 | apply Bb2 | apply Bb3 | refine Bb4 ?_ GE294.out | refine Bb4 ?_ GE295.out) | exact HB.out)) hb)
                have n6_ := am (hbox)
                have n7_ := am ((by rw [hg]; exact (Bb5 (by repeat (first | (with_reducible first | exact HB.out | apply Bb1 | apply Bb2 | apply Bb3 | refine Bb4 ?_ GE294.out | refine Bb4 ?_ GE295.out) | exact HB.out))) : w.heap.size ≤ gb309))
                have n8_ := am ((by rw [hg]; exact (Bb5 (by repeat (first | (with_reducible first | exact HB.out | apply Bb1 | apply Bb2 | apply Bb3 | refine Bb4 ?_ GE294.out | refine Bb4 ?_ GE295.out) | exact HB.out))) : w.heap.size ≤ gb309))
                have n9_ := am ((by rw [hg]; exact nl (Bk5 (g := gb294) (o := .cells #[.int .i64 ((rd_T35 l0 0).f0), .int .i64 ((rd_T35 l0 0).f1)] 35 (0, 0)) (by (with_reducible repeat (first | refine Bk2 ?_ _ | refine Bk3 ?_ | refine Bk1 ?_ _)); exact BK294.out)) : gb294 ≠ gb309))
                have n10_ := am ((by rw [hg]; exact ng (Bk5 (g := gb294) (o := .cells #[.int .i64 ((rd_T35 l0 0).f0), .int .i64 ((rd_T35 l0 0).f1)] 35 (0, 0)) (by (with_reducible repeat (first | refine Bk2 ?_ _ | refine Bk3 ?_ | refine Bk1 ?_ _)); exact BK294.out)) : gb309 ≠ gb294))
                have n11_ := am ((by rw [hg]; exact nl (Bk5 (g := gb295) (o := .cells #[.int .i64 (wrap64 (x296000_1 + ((rd_T35 y299 x6_1).f0))), .int .i64 (wrap64 (x296001_1 + ((rd_T35 y299 x6_1).f1)))] 35 (0, 0)) (by (with_reducible repeat (first | refine Bk2 ?_ _ | refine Bk3 ?_ | refine Bk1 ?_ _)); exact BK295.out)) : gb295 ≠ gb309))
                have n12_ := am ((by rw [hg]; exact ng (Bk5 (g := gb295) (o := .cells #[.int .i64 (wrap64 (x296000_1 + ((rd_T35 y299 x6_1).f0))), .int .i64 (wrap64 (x296001_1 + ((rd_T35 y299 x6_1).f1)))] 35 (0, 0)) (by (with_reducible repeat (first | refine Bk2 ?_ _ | refine Bk3 ?_ | refine Bk1 ?_ _)); exact BK295.out)) : gb309 ≠ gb295))
                clear HO298
                clear HO301
                clear HO306
                clear BK294
                clear BK295
                clear HB
                have HO298 := n0_
                have HO301 := n1_
                have HO306 := n2_
                have BK294 := n3_
                have BK295 := n4_
                have HB := n5_
                have BK309 := n6_
                have GW309 := n7_
                have GE309 := n8_
                have NB294_309 := n9_
                have NB309_294 := n10_
                have NB295_309 := n11_
                have NB309_295 := n12_
                clear n0_ n1_ n2_ n3_ n4_ n5_ n6_ n7_ n8_ n9_ n10_ n11_ n12_
                clear hb hbox hg
                refine hK.out _ _ ⟨HS0_, HS1_, HS2_, HS3_⟩ (fun hHeld => ?_)
                clear hK K
                refine norm_ (a' := ?_) ?_ ?_
                rotate_left
                ·show Act.put _ (some 9) _ = _
                 simp only [Act.put, sa, i64_w, i32_w]
                 rfl
                refine one_ (i := 11) (N := some 10) spec_l23Word.m27 rfl rfl (one_of HT_.out (by kernel_rfl)) (by decide) (fun K hK => ?_)
                refine box_step ?hg (N := 10) ?hd (cs := #[.int .i64 0, .int .i64 0]) (t := 35) ?hr ?_; (case hd => rfl); (case hg => rfl); (case hr => first | (go_simp; done) | (go_simp; rfl))
                intro gb310 hg w76 hbox hb
                have HS0_ := (hb.cell (World.block_lt_of_cell? _ _ (hHeld.1))).trans (hHeld.1)
                have HS1_ := (hb.cell (World.block_lt_of_cell? _ _ (hHeld.2.1))).trans (hHeld.2.1)
                have HS2_ := (hb.cell (World.block_lt_of_cell? _ _ (hHeld.2.2.1))).trans (hHeld.2.2.1)
                have HS3_ := (hb.cell (World.block_lt_of_cell? _ _ (hHeld.2.2.2))).trans (hHeld.2.2.2)
                have n0_ := am (Kd.R_below (by (with_reducible repeat (first | apply Kd.R_alloc | apply Kd.R_drewN | apply Kd.R_drew)); exact HO298.out) hb)
                have n1_ := am (Kd.R_below (Kd.R_elderB (by (with_reducible repeat (first | apply Kd.R_alloc | apply Kd.R_drewN | apply Kd.R_drew)); exact HO301.out) gb310 (Nat.le_of_eq hg.symm)) hb)
                have n2_ := am (Kd.R_below (Kd.R_elderB (by (with_reducible repeat (first | apply Kd.R_alloc | apply Kd.R_drewN | apply Kd.R_drew)); exact HO306.out) gb310 (Nat.le_of_eq hg.symm)) hb)
                have n3_ := am (Bk4 (g := gb294) (o := .cells #[.int .i64 ((rd_T35 l0 0).f0), .int .i64 ((rd_T35 l0 0).f1)] 35 (0, 0)) (by (with_reducible repeat (first | refine Bk2 ?_ _ | refine Bk3 ?_ | refine Bk1 ?_ _)); exact BK294.out) hb)
                have n4_ := am (Bk4 (g := gb295) (o := .cells #[.int .i64 (wrap64 (x296000_1 + ((rd_T35 y299 x6_1).f0))), .int .i64 (wrap64 (x296001_1 + ((rd_T35 y299 x6_1).f1)))] 35 (0, 0)) (by (with_reducible repeat (first | refine Bk2 ?_ _ | refine Bk3 ?_ | refine Bk1 ?_ _)); exact BK295.out) hb)
                have n5_ := am (Bk4 (g := gb309) (o := .cells #[.int .i64 0, .int .i64 0] 35 (0, 0)) (by (with_reducible repeat (first | refine Bk2 ?_ _ | refine Bk3 ?_ | refine Bk1 ?_ _)); exact BK309.out) hb)
                have n6_ := am (Bb6 (by repeat (first | (with_reducible first | exact HB.out | apply Bb1 | apply Bb2 | apply Bb3 | refine Bb4 ?_ GE294.out | refine Bb4 ?_ GE295.out | refine Bb4 ?_ GE309.out) | exact HB.out)) hb)
                have n7_ := am (hbox)
                have n8_ := am ((by rw [hg]; exact (Bb5 (by repeat (first | (with_reducible first | exact HB.out | apply Bb1 | apply Bb2 | apply Bb3 | refine Bb4 ?_ GE294.out | refine Bb4 ?_ GE295.out | refine Bb4 ?_ GE309.out) | exact HB.out))) : w.heap.size ≤ gb310))
                have n9_ := am ((by rw [hg]; exact (Bb5 (by repeat (first | (with_reducible first | exact HB.out | apply Bb1 | apply Bb2 | apply Bb3 | refine Bb4 ?_ GE294.out | refine Bb4 ?_ GE295.out | refine Bb4 ?_ GE309.out) | exact HB.out))) : w.heap.size ≤ gb310))
                have n10_ := am ((by rw [hg]; exact nl (Bk5 (g := gb294) (o := .cells #[.int .i64 ((rd_T35 l0 0).f0), .int .i64 ((rd_T35 l0 0).f1)] 35 (0, 0)) (by (with_reducible repeat (first | refine Bk2 ?_ _ | refine Bk3 ?_ | refine Bk1 ?_ _)); exact BK294.out)) : gb294 ≠ gb310))
                have n11_ := am ((by rw [hg]; exact ng (Bk5 (g := gb294) (o := .cells #[.int .i64 ((rd_T35 l0 0).f0), .int .i64 ((rd_T35 l0 0).f1)] 35 (0, 0)) (by (with_reducible repeat (first | refine Bk2 ?_ _ | refine Bk3 ?_ | refine Bk1 ?_ _)); exact BK294.out)) : gb310 ≠ gb294))
                have n12_ := am ((by rw [hg]; exact nl (Bk5 (g := gb295) (o := .cells #[.int .i64 (wrap64 (x296000_1 + ((rd_T35 y299 x6_1).f0))), .int .i64 (wrap64 (x296001_1 + ((rd_T35 y299 x6_1).f1)))] 35 (0, 0)) (by (with_reducible repeat (first | refine Bk2 ?_ _ | refine Bk3 ?_ | refine Bk1 ?_ _)); exact BK295.out)) : gb295 ≠ gb310))
                have n13_ := am ((by rw [hg]; exact ng (Bk5 (g := gb295) (o := .cells #[.int .i64 (wrap64 (x296000_1 + ((rd_T35 y299 x6_1).f0))), .int .i64 (wrap64 (x296001_1 + ((rd_T35 y299 x6_1).f1)))] 35 (0, 0)) (by (with_reducible repeat (first | refine Bk2 ?_ _ | refine Bk3 ?_ | refine Bk1 ?_ _)); exact BK295.out)) : gb310 ≠ gb295))
                have n14_ := am ((by rw [hg]; exact nl (Bk5 (g := gb309) (o := .cells #[.int .i64 0, .int .i64 0] 35 (0, 0)) (by (with_reducible repeat (first | refine Bk2 ?_ _ | refine Bk3 ?_ | refine Bk1 ?_ _)); exact BK309.out)) : gb309 ≠ gb310))
                have n15_ := am ((by rw [hg]; exact ng (Bk5 (g := gb309) (o := .cells #[.int .i64 0, .int .i64 0] 35 (0, 0)) (by (with_reducible repeat (first | refine Bk2 ?_ _ | refine Bk3 ?_ | refine Bk1 ?_ _)); exact BK309.out)) : gb310 ≠ gb309))
                clear HO298
                clear HO301
                clear HO306
                clear BK294
                clear BK295
                clear BK309
                clear HB
                have HO298 := n0_
                have HO301 := n1_
                have HO306 := n2_
                have BK294 := n3_
                have BK295 := n4_
                have BK309 := n5_
                have HB := n6_
                have BK310 := n7_
                have GW310 := n8_
                have GE310 := n9_
                have NB294_310 := n10_
                have NB310_294 := n11_
                have NB295_310 := n12_
                have NB310_295 := n13_
                have NB309_310 := n14_
                have NB310_309 := n15_
                clear n0_ n1_ n2_ n3_ n4_ n5_ n6_ n7_ n8_ n9_ n10_ n11_ n12_ n13_ n14_ n15_
                clear hb hbox hg
                refine hK.out _ _ ⟨HS0_, HS1_, HS2_, HS3_⟩ (fun hHeld => ?_)
                clear hK K
                refine norm_ (a' := ?_) ?_ ?_
                rotate_left
                ·show Act.put _ (some 10) _ = _
                 simp only [Act.put, sa, i64_w, i32_w]
                 rfl
                exact norm_ (by simp only [putAll, Act.put, sa]) (hCont (gb309, gb310) _ ⟨hHeld, (by (with_reducible repeat (first | apply Kd.R_alloc | apply Kd.R_drewN | apply Kd.R_drew)); exact HO298.out), (by (with_reducible repeat (first | apply Kd.R_alloc | apply Kd.R_drewN | apply Kd.R_drew)); exact Kd.R_mono HO301.out (fun _ hk => ⟨hk.1.1.2, ⟨hk.1.1.1.1.2, ⟨hk.1.1.1.2, ⟨hk.1.2, hk.2⟩⟩⟩⟩)), (by (with_reducible repeat (first | apply Kd.R_alloc | apply Kd.R_drewN | apply Kd.R_drew)); exact Kd.R_mono HO306.out (fun _ hk => ⟨hk.1.1.1.1.2, ⟨hk.1.1.1.2, ⟨hk.1.1.2, ⟨hk.1.2, hk.2⟩⟩⟩⟩)), (by (with_reducible repeat (first | refine Bk2 ?_ _ | refine Bk3 ?_ | refine Bk1 ?_ _)); exact BK294.out), (by (with_reducible repeat (first | refine Bk2 ?_ _ | refine Bk3 ?_ | refine Bk1 ?_ _)); exact BK295.out), (by (with_reducible repeat (first | refine Bk2 ?_ _ | refine Bk3 ?_ | refine Bk1 ?_ _)); exact BK309.out), (by (with_reducible repeat (first | refine Bk2 ?_ _ | refine Bk3 ?_ | refine Bk1 ?_ _)); exact BK310.out), GW309.out, GE309.out, NB294_309.out, NB309_294.out, NB295_309.out, NB309_295.out, NB310_309.out, NB309_310.out, GW310.out, GE310.out, NB294_310.out, NB310_294.out, NB295_310.out, NB310_295.out, (by repeat (first | (with_reducible first | exact HB.out | apply Bb1 | apply Bb2 | apply Bb3 | refine Bb4 ?_ GE294.out | refine Bb4 ?_ GE295.out | refine Bb4 ?_ GE309.out | refine Bb4 ?_ GE310.out) | exact HB.out))⟩)
               ·skip
                refine box_step ?hg (N := 10) ?hd (cs := #[.int .i64 0, .int .i64 0]) (t := 35) ?hr ?_; (case hd => rfl); (case hg => rfl); (case hr => first | (go_simp; done) | (go_simp; rfl))
                intro gb310 hg w75 hbox hb
                have HS0_ := (hb.cell (World.block_lt_of_cell? _ _ (hHeld.1))).trans (hHeld.1)
                have HS1_ := (hb.cell (World.block_lt_of_cell? _ _ (hHeld.2.1))).trans (hHeld.2.1)
                have HS2_ := (hb.cell (World.block_lt_of_cell? _ _ (hHeld.2.2.1))).trans (hHeld.2.2.1)
                have HS3_ := (hb.cell (World.block_lt_of_cell? _ _ (hHeld.2.2.2))).trans (hHeld.2.2.2)
                have n0_ := am (Kd.R_below (by (with_reducible repeat (first | apply Kd.R_alloc | apply Kd.R_drewN | apply Kd.R_drew)); exact HO298.out) hb)
                have n1_ := am (Kd.R_below (Kd.R_elderB (by (with_reducible repeat (first | apply Kd.R_alloc | apply Kd.R_drewN | apply Kd.R_drew)); exact HO301.out) gb310 (Nat.le_of_eq hg.symm)) hb)
                have n2_ := am (Kd.R_below (Kd.R_elderB (by (with_reducible repeat (first | apply Kd.R_alloc | apply Kd.R_drewN | apply Kd.R_drew)); exact HO306.out) gb310 (Nat.le_of_eq hg.symm)) hb)
                have n3_ := am (Bk4 (g := gb294) (o := .cells #[.int .i64 ((rd_T35 l0 0).f0), .int .i64 ((rd_T35 l0 0).f1)] 35 (0, 0)) (by (with_reducible repeat (first | refine Bk2 ?_ _ | refine Bk3 ?_ | refine Bk1 ?_ _)); exact BK294.out) hb)
                have n4_ := am (Bk4 (g := gb295) (o := .cells #[.int .i64 (wrap64 (x296000_1 + ((rd_T35 y299 x6_1).f0))), .int .i64 (wrap64 (x296001_1 + ((rd_T35 y299 x6_1).f1)))] 35 (0, 0)) (by (with_reducible repeat (first | refine Bk2 ?_ _ | refine Bk3 ?_ | refine Bk1 ?_ _)); exact BK295.out) hb)
                have n5_ := am (Bb6 (by repeat (first | (with_reducible first | exact HB.out | apply Bb1 | apply Bb2 | apply Bb3 | refine Bb4 ?_ GE294.out | refine Bb4 ?_ GE295.out) | exact HB.out)) hb)
                have n6_ := am (hbox)
                have n7_ := am ((by rw [hg]; exact (Bb5 (by repeat (first | (with_reducible first | exact HB.out | apply Bb1 | apply Bb2 | apply Bb3 | refine Bb4 ?_ GE294.out | refine Bb4 ?_ GE295.out) | exact HB.out))) : w.heap.size ≤ gb310))
                have n8_ := am ((by rw [hg]; exact (Bb5 (by repeat (first | (with_reducible first | exact HB.out | apply Bb1 | apply Bb2 | apply Bb3 | refine Bb4 ?_ GE294.out | refine Bb4 ?_ GE295.out) | exact HB.out))) : w.heap.size ≤ gb310))
                have n9_ := am ((by rw [hg]; exact nl (Bk5 (g := gb294) (o := .cells #[.int .i64 ((rd_T35 l0 0).f0), .int .i64 ((rd_T35 l0 0).f1)] 35 (0, 0)) (by (with_reducible repeat (first | refine Bk2 ?_ _ | refine Bk3 ?_ | refine Bk1 ?_ _)); exact BK294.out)) : gb294 ≠ gb310))
                have n10_ := am ((by rw [hg]; exact ng (Bk5 (g := gb294) (o := .cells #[.int .i64 ((rd_T35 l0 0).f0), .int .i64 ((rd_T35 l0 0).f1)] 35 (0, 0)) (by (with_reducible repeat (first | refine Bk2 ?_ _ | refine Bk3 ?_ | refine Bk1 ?_ _)); exact BK294.out)) : gb310 ≠ gb294))
                have n11_ := am ((by rw [hg]; exact nl (Bk5 (g := gb295) (o := .cells #[.int .i64 (wrap64 (x296000_1 + ((rd_T35 y299 x6_1).f0))), .int .i64 (wrap64 (x296001_1 + ((rd_T35 y299 x6_1).f1)))] 35 (0, 0)) (by (with_reducible repeat (first | refine Bk2 ?_ _ | refine Bk3 ?_ | refine Bk1 ?_ _)); exact BK295.out)) : gb295 ≠ gb310))
                have n12_ := am ((by rw [hg]; exact ng (Bk5 (g := gb295) (o := .cells #[.int .i64 (wrap64 (x296000_1 + ((rd_T35 y299 x6_1).f0))), .int .i64 (wrap64 (x296001_1 + ((rd_T35 y299 x6_1).f1)))] 35 (0, 0)) (by (with_reducible repeat (first | refine Bk2 ?_ _ | refine Bk3 ?_ | refine Bk1 ?_ _)); exact BK295.out)) : gb310 ≠ gb295))
                clear HO298
                clear HO301
                clear HO306
                clear BK294
                clear BK295
                clear HB
                have HO298 := n0_
                have HO301 := n1_
                have HO306 := n2_
                have BK294 := n3_
                have BK295 := n4_
                have HB := n5_
                have BK310 := n6_
                have GW310 := n7_
                have GE310 := n8_
                have NB294_310 := n9_
                have NB310_294 := n10_
                have NB295_310 := n11_
                have NB310_295 := n12_
                clear n0_ n1_ n2_ n3_ n4_ n5_ n6_ n7_ n8_ n9_ n10_ n11_ n12_
                clear hb hbox hg
                refine hK.out _ _ ⟨HS0_, HS1_, HS2_, HS3_⟩ (fun hHeld => ?_)
                clear hK K
                refine norm_ (a' := ?_) ?_ ?_
                rotate_left
                ·show Act.put _ (some 10) _ = _
                 simp only [Act.put, sa, i64_w, i32_w]
                 rfl
                refine one_ (i := 10) (N := some 9) spec_l23Word.m27 rfl rfl (one_of HT_.out (by kernel_rfl)) (by decide) (fun K hK => ?_)
                refine box_step ?hg (N := 9) ?hd (cs := #[.int .i64 0, .int .i64 0]) (t := 35) ?hr ?_; (case hd => rfl); (case hg => rfl); (case hr => first | (go_simp; done) | (go_simp; rfl))
                intro gb309 hg w76 hbox hb
                have HS0_ := (hb.cell (World.block_lt_of_cell? _ _ (hHeld.1))).trans (hHeld.1)
                have HS1_ := (hb.cell (World.block_lt_of_cell? _ _ (hHeld.2.1))).trans (hHeld.2.1)
                have HS2_ := (hb.cell (World.block_lt_of_cell? _ _ (hHeld.2.2.1))).trans (hHeld.2.2.1)
                have HS3_ := (hb.cell (World.block_lt_of_cell? _ _ (hHeld.2.2.2))).trans (hHeld.2.2.2)
                have n0_ := am (Kd.R_below (by (with_reducible repeat (first | apply Kd.R_alloc | apply Kd.R_drewN | apply Kd.R_drew)); exact HO298.out) hb)
                have n1_ := am (Kd.R_below (Kd.R_elderB (by (with_reducible repeat (first | apply Kd.R_alloc | apply Kd.R_drewN | apply Kd.R_drew)); exact HO301.out) gb309 (Nat.le_of_eq hg.symm)) hb)
                have n2_ := am (Kd.R_below (Kd.R_elderB (by (with_reducible repeat (first | apply Kd.R_alloc | apply Kd.R_drewN | apply Kd.R_drew)); exact HO306.out) gb309 (Nat.le_of_eq hg.symm)) hb)
                have n3_ := am (Bk4 (g := gb294) (o := .cells #[.int .i64 ((rd_T35 l0 0).f0), .int .i64 ((rd_T35 l0 0).f1)] 35 (0, 0)) (by (with_reducible repeat (first | refine Bk2 ?_ _ | refine Bk3 ?_ | refine Bk1 ?_ _)); exact BK294.out) hb)
                have n4_ := am (Bk4 (g := gb295) (o := .cells #[.int .i64 (wrap64 (x296000_1 + ((rd_T35 y299 x6_1).f0))), .int .i64 (wrap64 (x296001_1 + ((rd_T35 y299 x6_1).f1)))] 35 (0, 0)) (by (with_reducible repeat (first | refine Bk2 ?_ _ | refine Bk3 ?_ | refine Bk1 ?_ _)); exact BK295.out) hb)
                have n5_ := am (Bk4 (g := gb310) (o := .cells #[.int .i64 0, .int .i64 0] 35 (0, 0)) (by (with_reducible repeat (first | refine Bk2 ?_ _ | refine Bk3 ?_ | refine Bk1 ?_ _)); exact BK310.out) hb)
                have n6_ := am (Bb6 (by repeat (first | (with_reducible first | exact HB.out | apply Bb1 | apply Bb2 | apply Bb3 | refine Bb4 ?_ GE294.out | refine Bb4 ?_ GE295.out | refine Bb4 ?_ GE310.out) | exact HB.out)) hb)
                have n7_ := am (hbox)
                have n8_ := am ((by rw [hg]; exact (Bb5 (by repeat (first | (with_reducible first | exact HB.out | apply Bb1 | apply Bb2 | apply Bb3 | refine Bb4 ?_ GE294.out | refine Bb4 ?_ GE295.out | refine Bb4 ?_ GE310.out) | exact HB.out))) : w.heap.size ≤ gb309))
                have n9_ := am ((by rw [hg]; exact (Bb5 (by repeat (first | (with_reducible first | exact HB.out | apply Bb1 | apply Bb2 | apply Bb3 | refine Bb4 ?_ GE294.out | refine Bb4 ?_ GE295.out | refine Bb4 ?_ GE310.out) | exact HB.out))) : w.heap.size ≤ gb309))
                have n10_ := am ((by rw [hg]; exact nl (Bk5 (g := gb294) (o := .cells #[.int .i64 ((rd_T35 l0 0).f0), .int .i64 ((rd_T35 l0 0).f1)] 35 (0, 0)) (by (with_reducible repeat (first | refine Bk2 ?_ _ | refine Bk3 ?_ | refine Bk1 ?_ _)); exact BK294.out)) : gb294 ≠ gb309))
                have n11_ := am ((by rw [hg]; exact ng (Bk5 (g := gb294) (o := .cells #[.int .i64 ((rd_T35 l0 0).f0), .int .i64 ((rd_T35 l0 0).f1)] 35 (0, 0)) (by (with_reducible repeat (first | refine Bk2 ?_ _ | refine Bk3 ?_ | refine Bk1 ?_ _)); exact BK294.out)) : gb309 ≠ gb294))
                have n12_ := am ((by rw [hg]; exact nl (Bk5 (g := gb295) (o := .cells #[.int .i64 (wrap64 (x296000_1 + ((rd_T35 y299 x6_1).f0))), .int .i64 (wrap64 (x296001_1 + ((rd_T35 y299 x6_1).f1)))] 35 (0, 0)) (by (with_reducible repeat (first | refine Bk2 ?_ _ | refine Bk3 ?_ | refine Bk1 ?_ _)); exact BK295.out)) : gb295 ≠ gb309))
                have n13_ := am ((by rw [hg]; exact ng (Bk5 (g := gb295) (o := .cells #[.int .i64 (wrap64 (x296000_1 + ((rd_T35 y299 x6_1).f0))), .int .i64 (wrap64 (x296001_1 + ((rd_T35 y299 x6_1).f1)))] 35 (0, 0)) (by (with_reducible repeat (first | refine Bk2 ?_ _ | refine Bk3 ?_ | refine Bk1 ?_ _)); exact BK295.out)) : gb309 ≠ gb295))
                have n14_ := am ((by rw [hg]; exact nl (Bk5 (g := gb310) (o := .cells #[.int .i64 0, .int .i64 0] 35 (0, 0)) (by (with_reducible repeat (first | refine Bk2 ?_ _ | refine Bk3 ?_ | refine Bk1 ?_ _)); exact BK310.out)) : gb310 ≠ gb309))
                have n15_ := am ((by rw [hg]; exact ng (Bk5 (g := gb310) (o := .cells #[.int .i64 0, .int .i64 0] 35 (0, 0)) (by (with_reducible repeat (first | refine Bk2 ?_ _ | refine Bk3 ?_ | refine Bk1 ?_ _)); exact BK310.out)) : gb309 ≠ gb310))
                clear HO298
                clear HO301
                clear HO306
                clear BK294
                clear BK295
                clear BK310
                clear HB
                have HO298 := n0_
                have HO301 := n1_
                have HO306 := n2_
                have BK294 := n3_
                have BK295 := n4_
                have BK310 := n5_
                have HB := n6_
                have BK309 := n7_
                have GW309 := n8_
                have GE309 := n9_
                have NB294_309 := n10_
                have NB309_294 := n11_
                have NB295_309 := n12_
                have NB309_295 := n13_
                have NB310_309 := n14_
                have NB309_310 := n15_
                clear n0_ n1_ n2_ n3_ n4_ n5_ n6_ n7_ n8_ n9_ n10_ n11_ n12_ n13_ n14_ n15_
                clear hb hbox hg
                refine hK.out _ _ ⟨HS0_, HS1_, HS2_, HS3_⟩ (fun hHeld => ?_)
                clear hK K
                refine norm_ (a' := ?_) ?_ ?_
                rotate_left
                ·show Act.put _ (some 9) _ = _
                 simp only [Act.put, sa, i64_w, i32_w]
                 rfl
                exact norm_ (by simp only [putAll, Act.put, sa]) (hCont (gb309, gb310) _ ⟨hHeld, (by (with_reducible repeat (first | apply Kd.R_alloc | apply Kd.R_drewN | apply Kd.R_drew)); exact HO298.out), (by (with_reducible repeat (first | apply Kd.R_alloc | apply Kd.R_drewN | apply Kd.R_drew)); exact Kd.R_mono HO301.out (fun _ hk => ⟨hk.1.1.2, ⟨hk.1.1.1.1.2, ⟨hk.1.1.1.2, ⟨hk.2, hk.1.2⟩⟩⟩⟩)), (by (with_reducible repeat (first | apply Kd.R_alloc | apply Kd.R_drewN | apply Kd.R_drew)); exact Kd.R_mono HO306.out (fun _ hk => ⟨hk.1.1.1.1.2, ⟨hk.1.1.1.2, ⟨hk.1.1.2, ⟨hk.2, hk.1.2⟩⟩⟩⟩)), (by (with_reducible repeat (first | refine Bk2 ?_ _ | refine Bk3 ?_ | refine Bk1 ?_ _)); exact BK294.out), (by (with_reducible repeat (first | refine Bk2 ?_ _ | refine Bk3 ?_ | refine Bk1 ?_ _)); exact BK295.out), (by (with_reducible repeat (first | refine Bk2 ?_ _ | refine Bk3 ?_ | refine Bk1 ?_ _)); exact BK309.out), (by (with_reducible repeat (first | refine Bk2 ?_ _ | refine Bk3 ?_ | refine Bk1 ?_ _)); exact BK310.out), GW309.out, GE309.out, NB294_309.out, NB309_294.out, NB295_309.out, NB309_295.out, NB310_309.out, NB309_310.out, GW310.out, GE310.out, NB294_310.out, NB310_294.out, NB295_310.out, NB310_295.out, (by repeat (first | (with_reducible first | exact HB.out | apply Bb1 | apply Bb2 | apply Bb3 | refine Bb4 ?_ GE294.out | refine Bb4 ?_ GE295.out | refine Bb4 ?_ GE310.out | refine Bb4 ?_ GE309.out) | exact HB.out))⟩)
              rintro ⟨gb309, gb310⟩ w77 ⟨hS_, h0_, h1_, h2_, h3_, h4_, h5_, h6_, h7_, h8_, h9_, h10_, h11_, h12_, h13_, h14_, h15_, h16_, h17_, h18_, h19_, h20_, h21_⟩
              have n0_ : Aside0 (Kd.R (Kd.int .u8) 5 w77 w.heap.size (fun _ => True) v297 y296) := ⟨h0_⟩
              have n1_ : Aside0 (Kd.R k35 35 w77 w.heap.size (fun k_ => some k_ ≠ (.slice (some ad307) y304.length co74 : Value).ownBlock ∧ k_ ≠ gb294 ∧ k_ ≠ gb295 ∧ k_ ≠ gb309 ∧ k_ ≠ gb310) (.slice (some ad302) y299.length co65) y299) := ⟨h1_⟩
              have n2_ : Aside0 (Kd.R k35 35 w77 w.heap.size (fun k_ => some k_ ≠ (.slice (some ad302) y299.length co65 : Value).ownBlock ∧ k_ ≠ gb294 ∧ k_ ≠ gb295 ∧ k_ ≠ gb309 ∧ k_ ≠ gb310) (.slice (some ad307) y304.length co74) y304) := ⟨h2_⟩
              have n3_ : Aside0 (w77.heap[gb294]? = some (.cells #[.int .i64 ((rd_T35 l0 0).f0), .int .i64 ((rd_T35 l0 0).f1)] 35 (0, 0))) := ⟨h3_⟩
              have n4_ : Aside0 (w77.heap[gb295]? = some (.cells #[.int .i64 (wrap64 (x296000_1 + ((rd_T35 y299 x6_1).f0))), .int .i64 (wrap64 (x296001_1 + ((rd_T35 y299 x6_1).f1)))] 35 (0, 0))) := ⟨h4_⟩
              have n5_ : Aside0 (w77.heap[gb309]? = some (.cells #[.int .i64 0, .int .i64 0] 35 (0, 0))) := ⟨h5_⟩
              have n6_ : Aside0 (w77.heap[gb310]? = some (.cells #[.int .i64 0, .int .i64 0] 35 (0, 0))) := ⟨h6_⟩
              have n7_ : Aside0 (w.heap.size ≤ gb309) := ⟨h7_⟩
              have n8_ : Aside0 (w.heap.size ≤ gb309) := ⟨h8_⟩
              have n9_ : Aside0 (gb294 ≠ gb309) := ⟨h9_⟩
              have n10_ : Aside0 (gb309 ≠ gb294) := ⟨h10_⟩
              have n11_ : Aside0 (gb295 ≠ gb309) := ⟨h11_⟩
              have n12_ : Aside0 (gb309 ≠ gb295) := ⟨h12_⟩
              have n13_ : Aside0 (gb310 ≠ gb309) := ⟨h13_⟩
              have n14_ : Aside0 (gb309 ≠ gb310) := ⟨h14_⟩
              have n15_ : Aside0 (w.heap.size ≤ gb310) := ⟨h15_⟩
              have n16_ : Aside0 (w.heap.size ≤ gb310) := ⟨h16_⟩
              have n17_ : Aside0 (gb294 ≠ gb310) := ⟨h17_⟩
              have n18_ : Aside0 (gb310 ≠ gb294) := ⟨h18_⟩
              have n19_ : Aside0 (gb295 ≠ gb310) := ⟨h19_⟩
              have n20_ : Aside0 (gb310 ≠ gb295) := ⟨h20_⟩
              have n21_ : Aside0 (Below w.heap.size w w77) := ⟨h21_⟩
              clear HO298
              clear HO301
              clear HO306
              clear BK294
              clear BK295
              clear HB
              clear h0_ h1_ h2_ h3_ h4_ h5_ h6_ h7_ h8_ h9_ h10_ h11_ h12_ h13_ h14_ h15_ h16_ h17_ h18_ h19_ h20_ h21_
              have HO298 := n0_
              have HO301 := n1_
              have HO306 := n2_
              have BK294 := n3_
              have BK295 := n4_
              have BK309 := n5_
              have BK310 := n6_
              have GW309 := n7_
              have GE309 := n8_
              have NB294_309 := n9_
              have NB309_294 := n10_
              have NB295_309 := n11_
              have NB309_295 := n12_
              have NB310_309 := n13_
              have NB309_310 := n14_
              have GW310 := n15_
              have GE310 := n16_
              have NB294_310 := n17_
              have NB310_294 := n18_
              have NB295_310 := n19_
              have NB310_295 := n20_
              have HB := n21_
              clear n0_ n1_ n2_ n3_ n4_ n5_ n6_ n7_ n8_ n9_ n10_ n11_ n12_ n13_ n14_ n15_ n16_ n17_ n18_ n19_ n20_ n21_
              have hHeld : w77.cell? (ad307.add ((x6_1).toNat * 2)) = some (.int .i64 ((rd_T35 y304 x6_1).f0)) ∧ w77.cell? ⟨(ad307.add ((x6_1).toNat * 2)).block, (ad307.add ((x6_1).toNat * 2)).off + 1, none⟩ = some (.int .i64 ((rd_T35 y304 x6_1).f1)) ∧ w77.cell? (ad307.add (((ji28)).toNat * 2)) = some (.int .i64 ((rd_T35 y304 (ji28)).f0)) ∧ w77.cell? ⟨(ad307.add (((ji28)).toNat * 2)).block, (ad307.add (((ji28)).toNat * 2)).off + 1, none⟩ = some (.int .i64 ((rd_T35 y304 (ji28)).f1)) := hS_
              refine norm_ (a' := ?_) ?_ ?_
              rotate_left
              ·simp only [putAll, Act.put, sa]
               rfl
              refine one_ (i := 12) (N := none) spec_l23Word.m28 rfl rfl (one_of HT_.out (by kernel_rfl)) (by decide) (fun K hK => ?_)
              have hs78 : w77.cell? ⟨gb309, 0, none⟩ = some (.int .i64 0) := (kc BK309.out 0).trans rfl
              have hfs78 := kf BK309.out 0
              have hns78_0 := NB294_309.out
              have hns78_1 := NB295_309.out
              have hns78_3 := NB310_309.out
              have hms78_0 := NB309_294.out
              have hms78_1 := NB309_295.out
              have hms78_3 := NB309_310.out
              have hs79 : w77.cell? ⟨gb309, 1, none⟩ = some (.int .i64 0) := (kc BK309.out 1).trans rfl
              have hfs79 := kf BK309.out 1
              have hns79_0 := NB294_309.out
              have hns79_1 := NB295_309.out
              have hns79_3 := NB310_309.out
              have hms79_0 := NB309_294.out
              have hms79_1 := NB309_295.out
              have hms79_3 := NB309_310.out
              refine skip_ (w1 := ?_) (by rfl) rfl ?_ ?_
              rotate_left
              ·go_simp
               rfl
              refine hK.out _ _ ⟨((cell_far (p := ⟨gb309, _, none⟩) (by first | exact Kd.own_blk (Kd.R_away HO306.out (fun _ hk => hk.2.2.2.1)) | (rw [add_block]; exact Kd.own_blk (Kd.R_away HO306.out (fun _ hk => hk.2.2.2.1))) | (show (Addr.add _ _).block ≠ _; rw [add_block]; exact Kd.own_blk (Kd.R_away HO306.out (fun _ hk => hk.2.2.2.1))) | (dsimp only; exact Kd.own_blk (Kd.R_away HO306.out (fun _ hk => hk.2.2.2.1)))) _).trans (((cell_far (p := ⟨gb309, _, none⟩) (by first | exact Kd.own_blk (Kd.R_away HO306.out (fun _ hk => hk.2.2.2.1)) | (rw [add_block]; exact Kd.own_blk (Kd.R_away HO306.out (fun _ hk => hk.2.2.2.1))) | (show (Addr.add _ _).block ≠ _; rw [add_block]; exact Kd.own_blk (Kd.R_away HO306.out (fun _ hk => hk.2.2.2.1))) | (dsimp only; exact Kd.own_blk (Kd.R_away HO306.out (fun _ hk => hk.2.2.2.1)))) _).trans (hHeld.1)))), ((cell_far (p := ⟨gb309, _, none⟩) (by first | exact Kd.own_blk (Kd.R_away HO306.out (fun _ hk => hk.2.2.2.1)) | (rw [add_block]; exact Kd.own_blk (Kd.R_away HO306.out (fun _ hk => hk.2.2.2.1))) | (show (Addr.add _ _).block ≠ _; rw [add_block]; exact Kd.own_blk (Kd.R_away HO306.out (fun _ hk => hk.2.2.2.1))) | (dsimp only; exact Kd.own_blk (Kd.R_away HO306.out (fun _ hk => hk.2.2.2.1)))) _).trans (((cell_far (p := ⟨gb309, _, none⟩) (by first | exact Kd.own_blk (Kd.R_away HO306.out (fun _ hk => hk.2.2.2.1)) | (rw [add_block]; exact Kd.own_blk (Kd.R_away HO306.out (fun _ hk => hk.2.2.2.1))) | (show (Addr.add _ _).block ≠ _; rw [add_block]; exact Kd.own_blk (Kd.R_away HO306.out (fun _ hk => hk.2.2.2.1))) | (dsimp only; exact Kd.own_blk (Kd.R_away HO306.out (fun _ hk => hk.2.2.2.1)))) _).trans (hHeld.2.1)))), ((cell_far (p := ⟨gb309, _, none⟩) (by first | exact Kd.own_blk (Kd.R_away HO306.out (fun _ hk => hk.2.2.2.1)) | (rw [add_block]; exact Kd.own_blk (Kd.R_away HO306.out (fun _ hk => hk.2.2.2.1))) | (show (Addr.add _ _).block ≠ _; rw [add_block]; exact Kd.own_blk (Kd.R_away HO306.out (fun _ hk => hk.2.2.2.1))) | (dsimp only; exact Kd.own_blk (Kd.R_away HO306.out (fun _ hk => hk.2.2.2.1)))) _).trans (((cell_far (p := ⟨gb309, _, none⟩) (by first | exact Kd.own_blk (Kd.R_away HO306.out (fun _ hk => hk.2.2.2.1)) | (rw [add_block]; exact Kd.own_blk (Kd.R_away HO306.out (fun _ hk => hk.2.2.2.1))) | (show (Addr.add _ _).block ≠ _; rw [add_block]; exact Kd.own_blk (Kd.R_away HO306.out (fun _ hk => hk.2.2.2.1))) | (dsimp only; exact Kd.own_blk (Kd.R_away HO306.out (fun _ hk => hk.2.2.2.1)))) _).trans (hHeld.2.2.1)))), ((cell_far (p := ⟨gb309, _, none⟩) (by first | exact Kd.own_blk (Kd.R_away HO306.out (fun _ hk => hk.2.2.2.1)) | (rw [add_block]; exact Kd.own_blk (Kd.R_away HO306.out (fun _ hk => hk.2.2.2.1))) | (show (Addr.add _ _).block ≠ _; rw [add_block]; exact Kd.own_blk (Kd.R_away HO306.out (fun _ hk => hk.2.2.2.1))) | (dsimp only; exact Kd.own_blk (Kd.R_away HO306.out (fun _ hk => hk.2.2.2.1)))) _).trans (((cell_far (p := ⟨gb309, _, none⟩) (by first | exact Kd.own_blk (Kd.R_away HO306.out (fun _ hk => hk.2.2.2.1)) | (rw [add_block]; exact Kd.own_blk (Kd.R_away HO306.out (fun _ hk => hk.2.2.2.1))) | (show (Addr.add _ _).block ≠ _; rw [add_block]; exact Kd.own_blk (Kd.R_away HO306.out (fun _ hk => hk.2.2.2.1))) | (dsimp only; exact Kd.own_blk (Kd.R_away HO306.out (fun _ hk => hk.2.2.2.1)))) _).trans (hHeld.2.2.2))))⟩ (fun hHeld => ?_)
              clear hK K
              refine one_ (i := 13) (N := none) spec_l23Word.m34 rfl rfl (one_of HT_.out (by kernel_rfl)) (by decide) (fun K hK => ?_)
              have hs80 : w77.cell? ⟨gb310, 0, none⟩ = some (.int .i64 0) := (kc BK310.out 0).trans rfl
              have hfs80 := kf BK310.out 0
              have hns80_0 := NB294_310.out
              have hns80_1 := NB295_310.out
              have hns80_2 := NB309_310.out
              have hms80_0 := NB310_294.out
              have hms80_1 := NB310_295.out
              have hms80_2 := NB310_309.out
              have hs81 : w77.cell? ⟨gb310, 1, none⟩ = some (.int .i64 0) := (kc BK310.out 1).trans rfl
              have hfs81 := kf BK310.out 1
              have hns81_0 := NB294_310.out
              have hns81_1 := NB295_310.out
              have hns81_2 := NB309_310.out
              have hms81_0 := NB310_294.out
              have hms81_1 := NB310_295.out
              have hms81_2 := NB310_309.out
              refine skip_ (w1 := ?_) (by rfl) rfl ?_ ?_
              rotate_left
              ·go_simp
               rfl
              refine hK.out _ _ ⟨((cell_far (p := ⟨gb310, _, none⟩) (by first | exact Kd.own_blk (Kd.R_away HO306.out (fun _ hk => hk.2.2.2.2)) | (rw [add_block]; exact Kd.own_blk (Kd.R_away HO306.out (fun _ hk => hk.2.2.2.2))) | (show (Addr.add _ _).block ≠ _; rw [add_block]; exact Kd.own_blk (Kd.R_away HO306.out (fun _ hk => hk.2.2.2.2))) | (dsimp only; exact Kd.own_blk (Kd.R_away HO306.out (fun _ hk => hk.2.2.2.2)))) _).trans (((cell_far (p := ⟨gb310, _, none⟩) (by first | exact Kd.own_blk (Kd.R_away HO306.out (fun _ hk => hk.2.2.2.2)) | (rw [add_block]; exact Kd.own_blk (Kd.R_away HO306.out (fun _ hk => hk.2.2.2.2))) | (show (Addr.add _ _).block ≠ _; rw [add_block]; exact Kd.own_blk (Kd.R_away HO306.out (fun _ hk => hk.2.2.2.2))) | (dsimp only; exact Kd.own_blk (Kd.R_away HO306.out (fun _ hk => hk.2.2.2.2)))) _).trans (hHeld.1)))), ((cell_far (p := ⟨gb310, _, none⟩) (by first | exact Kd.own_blk (Kd.R_away HO306.out (fun _ hk => hk.2.2.2.2)) | (rw [add_block]; exact Kd.own_blk (Kd.R_away HO306.out (fun _ hk => hk.2.2.2.2))) | (show (Addr.add _ _).block ≠ _; rw [add_block]; exact Kd.own_blk (Kd.R_away HO306.out (fun _ hk => hk.2.2.2.2))) | (dsimp only; exact Kd.own_blk (Kd.R_away HO306.out (fun _ hk => hk.2.2.2.2)))) _).trans (((cell_far (p := ⟨gb310, _, none⟩) (by first | exact Kd.own_blk (Kd.R_away HO306.out (fun _ hk => hk.2.2.2.2)) | (rw [add_block]; exact Kd.own_blk (Kd.R_away HO306.out (fun _ hk => hk.2.2.2.2))) | (show (Addr.add _ _).block ≠ _; rw [add_block]; exact Kd.own_blk (Kd.R_away HO306.out (fun _ hk => hk.2.2.2.2))) | (dsimp only; exact Kd.own_blk (Kd.R_away HO306.out (fun _ hk => hk.2.2.2.2)))) _).trans (hHeld.2.1)))), ((cell_far (p := ⟨gb310, _, none⟩) (by first | exact Kd.own_blk (Kd.R_away HO306.out (fun _ hk => hk.2.2.2.2)) | (rw [add_block]; exact Kd.own_blk (Kd.R_away HO306.out (fun _ hk => hk.2.2.2.2))) | (show (Addr.add _ _).block ≠ _; rw [add_block]; exact Kd.own_blk (Kd.R_away HO306.out (fun _ hk => hk.2.2.2.2))) | (dsimp only; exact Kd.own_blk (Kd.R_away HO306.out (fun _ hk => hk.2.2.2.2)))) _).trans (((cell_far (p := ⟨gb310, _, none⟩) (by first | exact Kd.own_blk (Kd.R_away HO306.out (fun _ hk => hk.2.2.2.2)) | (rw [add_block]; exact Kd.own_blk (Kd.R_away HO306.out (fun _ hk => hk.2.2.2.2))) | (show (Addr.add _ _).block ≠ _; rw [add_block]; exact Kd.own_blk (Kd.R_away HO306.out (fun _ hk => hk.2.2.2.2))) | (dsimp only; exact Kd.own_blk (Kd.R_away HO306.out (fun _ hk => hk.2.2.2.2)))) _).trans (hHeld.2.2.1)))), ((cell_far (p := ⟨gb310, _, none⟩) (by first | exact Kd.own_blk (Kd.R_away HO306.out (fun _ hk => hk.2.2.2.2)) | (rw [add_block]; exact Kd.own_blk (Kd.R_away HO306.out (fun _ hk => hk.2.2.2.2))) | (show (Addr.add _ _).block ≠ _; rw [add_block]; exact Kd.own_blk (Kd.R_away HO306.out (fun _ hk => hk.2.2.2.2))) | (dsimp only; exact Kd.own_blk (Kd.R_away HO306.out (fun _ hk => hk.2.2.2.2)))) _).trans (((cell_far (p := ⟨gb310, _, none⟩) (by first | exact Kd.own_blk (Kd.R_away HO306.out (fun _ hk => hk.2.2.2.2)) | (rw [add_block]; exact Kd.own_blk (Kd.R_away HO306.out (fun _ hk => hk.2.2.2.2))) | (show (Addr.add _ _).block ≠ _; rw [add_block]; exact Kd.own_blk (Kd.R_away HO306.out (fun _ hk => hk.2.2.2.2))) | (dsimp only; exact Kd.own_blk (Kd.R_away HO306.out (fun _ hk => hk.2.2.2.2)))) _).trans (hHeld.2.2.2))))⟩ (fun hHeld => ?_)
              clear hK K
              refine done_ (done_of HT_.out (by kernel_rfl)) ?_
              have hnb82 := NB309_294.out
              have hnc82 := NB294_309.out
              have hnb83 := NB309_295.out
              have hnc83 := NB295_309.out
              have hnb84 := NB309_310.out
              have hnc84 := NB310_309.out
              have hcz85_0 : w77.cell? ⟨gb309, 0, none⟩ = some (.int .i64 0) := (kc BK309.out 0).trans rfl
              have hcz85_1 : w77.cell? ⟨gb309, 1, none⟩ = some (.int .i64 0) := (kc BK309.out 1).trans rfl
              have hfz85_0 := kf BK309.out 0
              have hfz85_1 := kf BK309.out 1
              try go_wp2_with (first | ((with_reducible refine gate_callee (f := 27) rfl ?_); refine goesL_ (some 82) rfl rfl Try.func27 (by kernel_rfl) rfl #[.slice (some ad293) l0.length c0, .agg #[.int .i64 ((rd_T35 y304 x6_1).f0), .int .i64 ((rd_T35 y304 x6_1).f1)]] rfl (by (try simp only [List.map_toArray, List.map_cons, List.map_nil]); first | done | rfl | (simp only [List.length_drop, List.length_take]; rfl)) ?_; (with_reducible refine (spec_l02Index.calls k1 _ _ l0 ((rd_T35 y304 x6_1).f0) ((rd_T35 y304 x6_1).f1) t311 _ ?side1 ?side2 A31.out).mono ?_); (case side1 => exact Kd.C_below HR0.out (by repeat (first | (with_reducible first | exact HB.out | apply Bb1 | apply Bb2 | apply Bb3 | refine Bb4 ?_ GE294.out | refine Bb4 ?_ GE295.out | refine Bb4 ?_ GE309.out | refine Bb4 ?_ GE310.out) | exact HB.out))); (case side2 => exact HC0.out); rintro e w86 ⟨rfl, hb⟩; refine ⟨_, rfl, ?_⟩; have n0_ := am (Kd.R_below (by (with_reducible repeat (first | apply Kd.R_alloc | apply Kd.R_drewN | apply Kd.R_drew)); exact (Kd.R_mono (Kd.R_mono (Kd.R_far (p := ⟨gb310, 1, none⟩) (Kd.R_far (p := ⟨gb310, 0, none⟩) (Kd.R_far (p := ⟨gb309, 1, none⟩) (Kd.R_far (p := ⟨gb309, 0, none⟩) (Kd.R_types (Kd.R_types HO298.out BK309.out (by decide)) BK310.out (by decide)) (fun _ hk => hk.1.2) (.int .i64 ((rd_T35 y304 x6_1).f0))) (fun _ hk => hk.1.2) (.int .i64 ((rd_T35 y304 x6_1).f1))) (fun _ hk => hk.2) (.int .i64 ((rd_T35 y304 (ji28)).f0))) (fun _ hk => hk.2) (.int .i64 ((rd_T35 y304 (ji28)).f1))) (fun _ h_ => h_.1)) (fun _ h_ => h_.1))) hb); have n1_ := am (Kd.R_below (by (with_reducible repeat (first | apply Kd.R_alloc | apply Kd.R_drewN | apply Kd.R_drew)); exact (Kd.R_mono (Kd.R_mono (Kd.R_far (p := ⟨gb310, 1, none⟩) (Kd.R_far (p := ⟨gb310, 0, none⟩) (Kd.R_far (p := ⟨gb309, 1, none⟩) (Kd.R_far (p := ⟨gb309, 0, none⟩) (Kd.R_mono (Kd.R_mono HO301.out (fun k_ hk => (⟨hk, hk.2.2.2.1⟩ : _ ∧ k_ ≠ gb309))) (fun k_ hk => (⟨hk, hk.1.2.2.2.2⟩ : _ ∧ k_ ≠ gb310))) (fun _ hk => hk.1.2) (.int .i64 ((rd_T35 y304 x6_1).f0))) (fun _ hk => hk.1.2) (.int .i64 ((rd_T35 y304 x6_1).f1))) (fun _ hk => hk.2) (.int .i64 ((rd_T35 y304 (ji28)).f0))) (fun _ hk => hk.2) (.int .i64 ((rd_T35 y304 (ji28)).f1))) (fun _ h_ => h_.1)) (fun _ h_ => h_.1))) hb); have n2_ := am (Kd.R_below (by (with_reducible repeat (first | apply Kd.R_alloc | apply Kd.R_drewN | apply Kd.R_drew)); exact (Kd.R_mono (Kd.R_mono (Kd.R_far (p := ⟨gb310, 1, none⟩) (Kd.R_far (p := ⟨gb310, 0, none⟩) (Kd.R_far (p := ⟨gb309, 1, none⟩) (Kd.R_far (p := ⟨gb309, 0, none⟩) (Kd.R_mono (Kd.R_mono HO306.out (fun k_ hk => (⟨hk, hk.2.2.2.1⟩ : _ ∧ k_ ≠ gb309))) (fun k_ hk => (⟨hk, hk.1.2.2.2.2⟩ : _ ∧ k_ ≠ gb310))) (fun _ hk => hk.1.2) (.int .i64 ((rd_T35 y304 x6_1).f0))) (fun _ hk => hk.1.2) (.int .i64 ((rd_T35 y304 x6_1).f1))) (fun _ hk => hk.2) (.int .i64 ((rd_T35 y304 (ji28)).f0))) (fun _ hk => hk.2) (.int .i64 ((rd_T35 y304 (ji28)).f1))) (fun _ h_ => h_.1)) (fun _ h_ => h_.1))) hb); have n3_ := am (Bk4 (g := gb294) (o := .cells #[.int .i64 ((rd_T35 l0 0).f0), .int .i64 ((rd_T35 l0 0).f1)] 35 (0, 0)) (by (with_reducible repeat (first | refine Bk2 ?_ _ | refine Bk3 ?_ | refine Bk1 ?_ _)); refine blk_far ?_ NB294_310.out _; (with_reducible repeat (first | refine Bk2 ?_ _ | refine Bk3 ?_ | refine Bk1 ?_ _)); refine blk_far ?_ NB294_310.out _; (with_reducible repeat (first | refine Bk2 ?_ _ | refine Bk3 ?_ | refine Bk1 ?_ _)); refine blk_far ?_ NB294_309.out _; (with_reducible repeat (first | refine Bk2 ?_ _ | refine Bk3 ?_ | refine Bk1 ?_ _)); refine blk_far ?_ NB294_309.out _; (with_reducible repeat (first | refine Bk2 ?_ _ | refine Bk3 ?_ | refine Bk1 ?_ _)); exact BK294.out) hb); have n4_ := am (Bk4 (g := gb295) (o := .cells #[.int .i64 (wrap64 (x296000_1 + ((rd_T35 y299 x6_1).f0))), .int .i64 (wrap64 (x296001_1 + ((rd_T35 y299 x6_1).f1)))] 35 (0, 0)) (by (with_reducible repeat (first | refine Bk2 ?_ _ | refine Bk3 ?_ | refine Bk1 ?_ _)); refine blk_far ?_ NB295_310.out _; (with_reducible repeat (first | refine Bk2 ?_ _ | refine Bk3 ?_ | refine Bk1 ?_ _)); refine blk_far ?_ NB295_310.out _; (with_reducible repeat (first | refine Bk2 ?_ _ | refine Bk3 ?_ | refine Bk1 ?_ _)); refine blk_far ?_ NB295_309.out _; (with_reducible repeat (first | refine Bk2 ?_ _ | refine Bk3 ?_ | refine Bk1 ?_ _)); refine blk_far ?_ NB295_309.out _; (with_reducible repeat (first | refine Bk2 ?_ _ | refine Bk3 ?_ | refine Bk1 ?_ _)); exact BK295.out) hb); have n5_ := am (Bk4 (g := gb309) (o := .cells #[.int .i64 ((rd_T35 y304 x6_1).f0), .int .i64 ((rd_T35 y304 x6_1).f1)] 35 (0, 0)) (by (with_reducible repeat (first | refine Bk2 ?_ _ | refine Bk3 ?_ | refine Bk1 ?_ _)); refine blk_far ?_ NB309_310.out _; (with_reducible repeat (first | refine Bk2 ?_ _ | refine Bk3 ?_ | refine Bk1 ?_ _)); refine blk_far ?_ NB309_310.out _; (with_reducible repeat (first | refine Bk2 ?_ _ | refine Bk3 ?_ | refine Bk1 ?_ _)); refine blk_put (cs := #[.int .i64 ((rd_T35 y304 x6_1).f0), .int .i64 0]) ?_ 1 _ rfl; (with_reducible repeat (first | refine Bk2 ?_ _ | refine Bk3 ?_ | refine Bk1 ?_ _)); refine blk_put (cs := #[.int .i64 0, .int .i64 0]) ?_ 0 _ rfl; (with_reducible repeat (first | refine Bk2 ?_ _ | refine Bk3 ?_ | refine Bk1 ?_ _)); exact BK309.out) hb); have n6_ := am (Bk4 (g := gb310) (o := .cells #[.int .i64 ((rd_T35 y304 (ji28)).f0), .int .i64 ((rd_T35 y304 (ji28)).f1)] 35 (0, 0)) (by (with_reducible repeat (first | refine Bk2 ?_ _ | refine Bk3 ?_ | refine Bk1 ?_ _)); refine blk_put (cs := #[.int .i64 ((rd_T35 y304 (ji28)).f0), .int .i64 0]) ?_ 1 _ rfl; (with_reducible repeat (first | refine Bk2 ?_ _ | refine Bk3 ?_ | refine Bk1 ?_ _)); refine blk_put (cs := #[.int .i64 0, .int .i64 0]) ?_ 0 _ rfl; (with_reducible repeat (first | refine Bk2 ?_ _ | refine Bk3 ?_ | refine Bk1 ?_ _)); refine blk_far ?_ NB310_309.out _; (with_reducible repeat (first | refine Bk2 ?_ _ | refine Bk3 ?_ | refine Bk1 ?_ _)); refine blk_far ?_ NB310_309.out _; (with_reducible repeat (first | refine Bk2 ?_ _ | refine Bk3 ?_ | refine Bk1 ?_ _)); exact BK310.out) hb); have n7_ := am (Bb6 (by repeat (first | (with_reducible first | exact HB.out | apply Bb1 | apply Bb2 | apply Bb3 | refine Bb4 ?_ GE294.out | refine Bb4 ?_ GE295.out | refine Bb4 ?_ GE309.out | refine Bb4 ?_ GE310.out) | exact HB.out)) hb); clear HO298; clear HO301; clear HO306; clear BK294; clear BK295; clear BK309; clear BK310; clear HB; have HO298 := n0_; have HO301 := n1_; have HO306 := n2_; have BK294 := n3_; have BK295 := n4_; have BK309 := n5_; have BK310 := n6_; have HB := n7_; clear n0_ n1_ n2_ n3_ n4_ n5_ n6_ n7_; (try clear hb); (try clear hb2); (try clear hk); (try clear hi); have hnb87 := NB310_294.out; have hnc87 := NB294_310.out; have hnb88 := NB310_295.out; have hnc88 := NB295_310.out; have hcz89_0 : w86.cell? ⟨gb310, 0, none⟩ = some (.int .i64 ((rd_T35 y304 (ji28)).f0)) := (kc BK310.out 0).trans rfl; have hcz89_1 : w86.cell? ⟨gb310, 1, none⟩ = some (.int .i64 ((rd_T35 y304 (ji28)).f1)) := (kc BK310.out 1).trans rfl; have hfz89_0 := kf BK310.out 0; have hfz89_1 := kf BK310.out 1) | ((with_reducible refine gate_callee (f := 27) rfl ?_); refine goesL_ (some 90) rfl rfl Try.func27 (by kernel_rfl) rfl #[.slice (some ad293) l0.length c0, .agg #[.int .i64 ((rd_T35 y304 (ji28)).f0), .int .i64 ((rd_T35 y304 (ji28)).f1)]] rfl (by (try simp only [List.map_toArray, List.map_cons, List.map_nil]); first | done | (simp only [hji28]; rfl) | rfl | (simp only [List.length_drop, List.length_take]; rfl)) ?_; (with_reducible refine (spec_l02Index.calls k1 _ _ l0 ((rd_T35 y304 (ji28)).f0) ((rd_T35 y304 (ji28)).f1) t312 _ ?side1 ?side2 A59.out).mono ?_); (case side1 => repeat (first | exact (Kd.C_below HR0.out HB.out) | (with_reducible refine Kd.C_alloc ?_ _) | (with_reducible refine Kd.C_drewN ?_ _) | (with_reducible refine Kd.C_drew ?_))); (case side2 => exact HC0.out); rintro e w90 ⟨rfl, hb⟩; refine ⟨_, rfl, ?_⟩; have n0_ := am (Kd.R_below (by (with_reducible repeat (first | apply Kd.R_alloc | apply Kd.R_drewN | apply Kd.R_drew)); exact HO298.out) hb); have n1_ := am (Kd.R_below (by (with_reducible repeat (first | apply Kd.R_alloc | apply Kd.R_drewN | apply Kd.R_drew)); exact HO301.out) hb); have n2_ := am (Kd.R_below (by (with_reducible repeat (first | apply Kd.R_alloc | apply Kd.R_drewN | apply Kd.R_drew)); exact HO306.out) hb); have n3_ := am (Bk4 (g := gb294) (o := .cells #[.int .i64 ((rd_T35 l0 0).f0), .int .i64 ((rd_T35 l0 0).f1)] 35 (0, 0)) (by (with_reducible repeat (first | refine Bk2 ?_ _ | refine Bk3 ?_ | refine Bk1 ?_ _)); exact BK294.out) hb); have n4_ := am (Bk4 (g := gb295) (o := .cells #[.int .i64 (wrap64 (x296000_1 + ((rd_T35 y299 x6_1).f0))), .int .i64 (wrap64 (x296001_1 + ((rd_T35 y299 x6_1).f1)))] 35 (0, 0)) (by (with_reducible repeat (first | refine Bk2 ?_ _ | refine Bk3 ?_ | refine Bk1 ?_ _)); exact BK295.out) hb); have n5_ := am (Bk4 (g := gb309) (o := .cells #[.int .i64 ((rd_T35 y304 x6_1).f0), .int .i64 ((rd_T35 y304 x6_1).f1)] 35 (0, 0)) (by (with_reducible repeat (first | refine Bk2 ?_ _ | refine Bk3 ?_ | refine Bk1 ?_ _)); exact BK309.out) hb); have n6_ := am (Bk4 (g := gb310) (o := .cells #[.int .i64 ((rd_T35 y304 (ji28)).f0), .int .i64 ((rd_T35 y304 (ji28)).f1)] 35 (0, 0)) (by (with_reducible repeat (first | refine Bk2 ?_ _ | refine Bk3 ?_ | refine Bk1 ?_ _)); exact BK310.out) hb); have n7_ := am (Bb6 (by repeat (first | (with_reducible first | exact HB.out | apply Bb1 | apply Bb2 | apply Bb3 | refine Bb4 ?_ GE294.out | refine Bb4 ?_ GE295.out | refine Bb4 ?_ GE309.out | refine Bb4 ?_ GE310.out) | exact HB.out)) hb); clear HO298; clear HO301; clear HO306; clear BK294; clear BK295; clear BK309; clear BK310; clear HB; have HO298 := n0_; have HO301 := n1_; have HO306 := n2_; have BK294 := n3_; have BK295 := n4_; have BK309 := n5_; have BK310 := n6_; have HB := n7_; clear n0_ n1_ n2_ n3_ n4_ n5_ n6_ n7_; (try clear hb); (try clear hb2); (try clear hk); (try clear hi)))
              go_roundg k1
              case measure => have := HK1.out; omega
              case rel => exact ⟨(y296), (ji28), (wrap64 (x296000_1 + ((rd_T35 y299 x6_1).f0))), (wrap64 (x296001_1 + ((rd_T35 y299 x6_1).f1))), (by first | rfl | (simp; done) | (simp only [← hji28] <;> (first | rfl | simp)) | (simp [*]; done)), H', ⟨by have := HK1.out; omega⟩, ⟨by (with_reducible repeat (first | apply Kd.R_alloc | apply Kd.R_drewN | apply Kd.R_drew)); exact HO298.out⟩, ⟨by (with_reducible repeat (first | refine Bk2 ?_ _ | refine Bk3 ?_ | refine Bk1 ?_ _)); exact BK294.out⟩, ⟨by (with_reducible repeat (first | refine Bk2 ?_ _ | refine Bk3 ?_ | refine Bk1 ?_ _)); exact BK295.out⟩, ⟨by repeat (first | (with_reducible first | exact HB.out | apply Bb1 | apply Bb2 | apply Bb3 | refine Bb4 ?_ GE294.out | refine Bb4 ?_ GE295.out | refine Bb4 ?_ GE309.out | refine Bb4 ?_ GE310.out) | exact HB.out)⟩⟩
             ·rw [if_neg c60] at H
              have c60b0 : decide (t312 < 0) = false := decide_eq_false c60
              clear c60
              have H' := am H
              clear H
              have p12 : 0 ≤ (x6_1 : Int) := of_decide_eq_true (by first | (with_reducible assumption) | assumption)
              have q12 : x6_1 < (4 : Int) := of_decide_eq_true (by first | (with_reducible assumption) | assumption)
              have hx12 := bt_at (⟨#[114, 100, 108, 117]⟩ : ByteArray) x6_1
              replace p12 := eq_true p12
              replace q12 := eq_true q12
              try go_wp2_with (first | ((with_reducible refine gate_builtin (b := .append) (xs := #[.tmp 16, .tmp 19]) rfl ?_); at_builtin; refine Kd.R_append (Kd.int .u8) (w0 := w) w.heap.size rfl (.tmp 16) (.tmp 19) 53 5 (.int .u8 0) 1 rfl Try.underlying53 info5 rfl (by decide) (by omega) u3 x3_1 (bt (⟨#[114, 100, 108, 117]⟩ : ByteArray) x6_1) [.int .u8 (bt (⟨#[114, 100, 108, 117]⟩ : ByteArray) x6_1)] (fun _ => True) (fun _ => False) rfl rfl ?aP (fun _ hk => hk.elim) ?aF ?aO ?aB ?aS ?aL ?_; (case aP => exact rfl); (case aB => exact (by repeat (first | (with_reducible first | exact HB.out | apply Bb1 | apply Bb2 | apply Bb3 | refine Bb4 ?_ GE294.out | refine Bb4 ?_ GE295.out) | exact HB.out))); (case aF => exact (fun _ _ => trivial)); (case aO => exact (by (with_reducible repeat (first | apply Kd.R_alloc | apply Kd.R_drewN | apply Kd.R_drew)); exact HO_3.out)); (case aS => exact (Bb5 (by repeat (first | (with_reducible first | exact HB.out | apply Bb1 | apply Bb2 | apply Bb3 | refine Bb4 ?_ GE294.out | refine Bb4 ?_ GE295.out) | exact HB.out)))); (case aL => first | (have := LMc13.out; omega) | (have h_ := Nat.le_of_lt LMc13.out; exact h_)); intro v297 w91 ho hb hg hat; rw [← Ny296.out] at ho; have n0_ := am (blk_grown (g := gb294) (o := .cells #[.int .i64 ((rd_T35 l0 0).f0), .int .i64 ((rd_T35 l0 0).f1)] 35 (0, 0)) (by (with_reducible repeat (first | refine Bk2 ?_ _ | refine Bk3 ?_ | refine Bk1 ?_ _)); exact BK294.out) hg (Kd.R_ne HO_3.out BK294.out (by decide))); have n1_ := am (blk_grown (g := gb295) (o := .cells #[.int .i64 x296000_1, .int .i64 x296001_1] 35 (0, 0)) (by (with_reducible repeat (first | refine Bk2 ?_ _ | refine Bk3 ?_ | refine Bk1 ?_ _)); exact BK295.out) hg (Kd.R_ne HO_3.out BK295.out (by decide))); have n2_ := am (hb); have n3_ := am (ho); clear BK294; clear BK295; clear HB; clear HO_3; have BK294 := n0_; have BK295 := n1_; have HB := n2_; have HO298 := n3_; clear n0_ n1_ n2_ n3_; clear ho hb hg hat) | ((with_reducible refine gate_dst (N := 25) rfl ?_); refine Kd.R_lit k35 _ 35 ?hg (N := 25) ?hd (xs := ([(⟨1, 0⟩ : S35), (⟨0, 1⟩ : S35), (⟨(-1), 0⟩ : S35), (⟨0, (-1)⟩ : S35)] : List (S35))) (inner := [.int .i64 1, .int .i64 0, .int .i64 0, .int .i64 1, .int .i64 (-1), .int .i64 0, .int .i64 0, .int .i64 (-1)]) (ok := fun _ => True) (okp := fun _ => True) ?hr ?hp (fun _ hk => hk) trivial (Below.refl _ _) (Nat.le_refl _) (by simp) ?_; (case hd => rfl); (case hg => rfl); (case hr => first | (go_simp; done) | (go_simp; rfl)); (case hp => exact (Reps.c2 (show Kd.M k35 _ _ _ (⟨1, 0⟩ : S35) [.int .i64 1, .int .i64 0] from (k35_mkM _ _ _ (⟨1, 0⟩ : S35) )) (Reps.c2 (show Kd.M k35 _ _ _ (⟨0, 1⟩ : S35) [.int .i64 0, .int .i64 1] from (k35_mkM _ _ _ (⟨0, 1⟩ : S35) )) (Reps.c2 (show Kd.M k35 _ _ _ (⟨(-1), 0⟩ : S35) [.int .i64 (-1), .int .i64 0] from (k35_mkM _ _ _ (⟨(-1), 0⟩ : S35) )) (Reps.c2 (show Kd.M k35 _ _ _ (⟨0, (-1)⟩ : S35) [.int .i64 0, .int .i64 (-1)] from (k35_mkM _ _ _ (⟨0, (-1)⟩ : S35) )) (Reps.none _ _)))))); intro v300 w92 ho93 hb hg_ hnew_; clear hg_ hnew_; (first | rw [← Ny299.out] at ho93 | (simp only [Int.reduceToNat] at ho93; rw [← Ny299.out] at ho93)); have n0_ := am (Kd.R_below (by (with_reducible repeat (first | apply Kd.R_alloc | apply Kd.R_drewN | apply Kd.R_drew)); exact HO298.out) hb); have n1_ := am (Kd.R_lower (Kd.R_newB (Kd.R_newB ho93 (g := gb294) (o := .cells #[.int .i64 ((rd_T35 l0 0).f0), .int .i64 ((rd_T35 l0 0).f1)] 35 (0, 0)) (by (with_reducible repeat (first | refine Bk2 ?_ _ | refine Bk3 ?_ | refine Bk1 ?_ _)); exact BK294.out)) (g := gb295) (o := .cells #[.int .i64 x296000_1, .int .i64 x296001_1] 35 (0, 0)) (by (with_reducible repeat (first | refine Bk2 ?_ _ | refine Bk3 ?_ | refine Bk1 ?_ _)); exact BK295.out)) (Bb5 (by repeat (first | (with_reducible first | exact HB.out | apply Bb1 | apply Bb2 | apply Bb3 | refine Bb4 ?_ GE294.out | refine Bb4 ?_ GE295.out) | exact HB.out)))); have n2_ := am (Bk4 (g := gb294) (o := .cells #[.int .i64 ((rd_T35 l0 0).f0), .int .i64 ((rd_T35 l0 0).f1)] 35 (0, 0)) (by (with_reducible repeat (first | refine Bk2 ?_ _ | refine Bk3 ?_ | refine Bk1 ?_ _)); exact BK294.out) hb); have n3_ := am (Bk4 (g := gb295) (o := .cells #[.int .i64 x296000_1, .int .i64 x296001_1] 35 (0, 0)) (by (with_reducible repeat (first | refine Bk2 ?_ _ | refine Bk3 ?_ | refine Bk1 ?_ _)); exact BK295.out) hb); have n4_ := am (Bb6 (by repeat (first | (with_reducible first | exact HB.out | apply Bb1 | apply Bb2 | apply Bb3 | refine Bb4 ?_ GE294.out | refine Bb4 ?_ GE295.out) | exact HB.out)) hb); clear HO298; clear BK294; clear BK295; clear HB; have HO298 := n0_; have HO301 := n1_; have BK294 := n2_; have BK295 := n3_; have HB := n4_; clear n0_ n1_ n2_ n3_ n4_; clear hb ho93))
              have n0_ := am (Kd.R_drew HO298.out)
              have n1_ := am (Kd.R_drew HO301.out)
              have n2_ := am (Bk3 BK294.out)
              have n3_ := am (Bk3 BK295.out)
              have n4_ := am (Bb3 HB.out)
              clear HO298
              clear HO301
              clear BK294
              clear BK295
              clear HB
              have HO298 := n0_
              have HO301 := n1_
              have BK294 := n2_
              have BK295 := n3_
              have HB := n4_
              clear n0_ n1_ n2_ n3_ n4_
              obtain ⟨Ao95, co95, eo95⟩ := Kd.R_slice HO301.out
              (first | subst eo95 | (injection eo95 with f1_ f2_ f3_; have f4_ := f1_.symm; have f5_ := f3_.symm; clear f1_ f2_ f3_; subst f4_; subst f5_))
              have p302 : 0 ≤ (x6_1 : Int) := of_decide_eq_true (by first | (with_reducible assumption) | assumption)
              have q302 : x6_1 < (y299.length : Int) := of_decide_eq_true (by first | (with_reducible assumption) | assumption)
              obtain ⟨ad302, e302, hx302_0, hx302_1⟩ := at_T35 (Kd.R_reads' HO301.out).2.2 x6_1 p302 q302
              cases e302
              replace p302 := eq_true p302
              replace q302 := eq_true q302
              have p303 : 0 ≤ (x6_1 : Int) := of_decide_eq_true (by first | (with_reducible assumption) | assumption)
              have q303 : x6_1 < (y299.length : Int) := of_decide_eq_true (by first | (with_reducible assumption) | assumption)
              obtain ⟨ad303, e303, hx303_0, hx303_1⟩ := at_T35 (Kd.R_reads' HO301.out).2.2 x6_1 p303 q303
              obtain rfl : ad302 = ad303 := (by injection e303)
              replace p303 := eq_true p303
              replace q303 := eq_true q303
              refine start_ (n := 18) (S := fun w' => w'.cell? ⟨gb295, 0, none⟩ = some (.int .i64 x296000_1) ∧ w'.cell? ⟨gb295, 1, none⟩ = some (.int .i64 x296001_1) ∧ w'.cell? (ad302.add ((x6_1).toNat * 2)) = some (.int .i64 ((rd_T35 y299 x6_1).f0)) ∧ w'.cell? ⟨(ad302.add ((x6_1).toNat * 2)).block, (ad302.add ((x6_1).toNat * 2)).off + 1, none⟩ = some (.int .i64 ((rd_T35 y299 x6_1).f1)) ∧ w'.cell? (ad302.add ((x6_1).toNat * 2)) = some (.int .i64 ((rd_T35 y299 x6_1).f0)) ∧ w'.cell? ⟨(ad302.add ((x6_1).toNat * 2)).block, (ad302.add ((x6_1).toNat * 2)).off + 1, none⟩ = some (.int .i64 ((rd_T35 y299 x6_1).f1))) (ds := [17]) spec_l23Word.m0 (by kernel_rfl) rfl rfl ⟨(kc BK295.out 0).trans rfl, (kc BK295.out 1).trans rfl, hx302_0, hx302_1, hx303_0, hx303_1⟩ (fun hHeld => ?_); refine with_tabW spec_l23Word.tab7 spec_l23Word.bits7 (fun HT_ HW_ => ?_)
              generalize w92.drew = w94 at HO298 HO301 BK294 BK295 HB hx302_0 hx302_1 hx303_0 hx303_1 hHeld ⊢
              refine pure_ (i := 0) (N := some 26) (v := ?_) (a' := ?_) spec_l23Word.m2 rfl rfl (any_of HT_.out (by kernel_rfl)) (fun _ _ _ h => h) (Or.inl ⟨by rfl, ?_⟩) ?_ ?_
              rotate_left
              ·intro w'
               go_simp
               with_reducible rfl
              rotate_left
              ·simp only [Act.put, sa, i64_w, i32_w]
               rfl
              refine pure_ (i := 2) (N := some 28) (v := ?_) (a' := ?_) spec_l23Word.m4 rfl rfl (any_of HT_.out (by kernel_rfl)) (fun _ _ _ h => h) (Or.inl ⟨by rfl, ?_⟩) ?_ ?_
              rotate_left
              ·intro w'
               go_simp
               with_reducible rfl
              rotate_left
              ·simp only [Act.put, sa, i64_w, i32_w]
               rfl
              refine pure_ (i := 3) (N := some 29) (v := ?_) (a' := ?_) spec_l23Word.m5 rfl rfl (any_of HT_.out (by kernel_rfl)) (fun _ _ _ h => h) (Or.inl ⟨by rfl, ?_⟩) ?_ ?_
              rotate_left
              ·intro w'
               go_simp
               with_reducible rfl
              rotate_left
              ·simp only [Act.put, sa, i64_w, i32_w]
               rfl
              refine pure_ (i := 4) (N := some 30) (v := ?_) (a' := ?_) spec_l23Word.m6 rfl rfl (any_of HT_.out (by kernel_rfl)) (fun _ _ _ h => h) (Or.inl ⟨by rfl, ?_⟩) ?_ ?_
              rotate_left
              ·intro w'
               go_simp
               with_reducible rfl
              rotate_left
              ·simp only [Act.put, sa, i64_w, i32_w]
               rfl
              refine pure_ (i := 5) (N := some 31) (v := ?_) (a' := ?_) spec_l23Word.m7 rfl rfl (any_of HT_.out (by kernel_rfl)) (fun _ _ _ h => h) (Or.inl ⟨by rfl, ?_⟩) ?_ ?_
              rotate_left
              ·intro w'
               go_simp
               with_reducible rfl
              rotate_left
              ·simp only [Act.put, sa, i64_w, i32_w]
               rfl
              refine pure_ (i := 8) (N := some 34) (v := ?_) (a' := ?_) spec_l23Word.m8 rfl rfl (any_of HT_.out (by kernel_rfl)) (fun _ _ _ h => h) (Or.inl ⟨by rfl, ?_⟩) ?_ ?_
              rotate_left
              ·intro w'
               go_simp
               with_reducible rfl
              rotate_left
              ·simp only [Act.put, sa, i64_w, i32_w]
               rfl
              refine pure_ (i := 10) (N := some 36) (v := ?_) (a' := ?_) spec_l23Word.m9 rfl rfl (any_of HT_.out (by kernel_rfl)) (fun _ _ _ h => h) (Or.inl ⟨by rfl, ?_⟩) ?_ ?_
              rotate_left
              ·intro w'
               go_simp
               with_reducible rfl
              rotate_left
              ·simp only [Act.put, sa, i64_w, i32_w]
               rfl
              refine pure_ (i := 11) (N := some 37) (v := ?_) (a' := ?_) spec_l23Word.m10 rfl rfl (any_of HT_.out (by kernel_rfl)) (fun _ _ _ h => h) (Or.inl ⟨by rfl, ?_⟩) ?_ ?_
              rotate_left
              ·intro w'
               go_simp
               with_reducible rfl
              rotate_left
              ·simp only [Act.put, sa, i64_w, i32_w]
               rfl
              refine pure_ (i := 12) (N := some 38) (v := ?_) (a' := ?_) spec_l23Word.m11 rfl rfl (any_of HT_.out (by kernel_rfl)) (fun _ _ _ h => h) (Or.inl ⟨by rfl, ?_⟩) ?_ ?_
              rotate_left
              ·intro w'
               go_simp
               with_reducible rfl
              rotate_left
              ·simp only [Act.put, sa, i64_w, i32_w]
               rfl
              refine pure_ (i := 13) (N := some 39) (v := ?_) (a' := ?_) spec_l23Word.m12 rfl rfl (any_of HT_.out (by kernel_rfl)) (fun _ _ _ h => h) (Or.inl ⟨by rfl, ?_⟩) ?_ ?_
              rotate_left
              ·intro w'
               go_simp
               with_reducible rfl
              rotate_left
              ·simp only [Act.put, sa, i64_w, i32_w]
               rfl
              refine take_ (i := 1) (N := some 27) (v := ?_) (a' := ?_) spec_l23Word.m20 rfl rfl (take_ofW HT_.out HW_.out (by kernel_rfl)) (fun _ _ _ h => h) (Or.inl ⟨by rfl, ?_⟩) hHeld ?_ ?_
              rotate_left
              ·rintro w' ⟨s0, s1, s2, s3, s4, s5⟩
               go_simp
               with_reducible rfl
              rotate_left
              ·simp only [Act.put, sa, i64_w, i32_w]
               rfl
              refine take_ (i := 6) (N := some 32) (v := ?_) (a' := ?_) spec_l23Word.m21 rfl rfl (take_ofW HT_.out HW_.out (by kernel_rfl)) (fun _ _ _ h => h) (Or.inl ⟨by rfl, ?_⟩) hHeld ?_ ?_
              rotate_left
              ·rintro w' ⟨s0, s1, s2, s3, s4, s5⟩
               go_simp
               with_reducible rfl
              rotate_left
              ·simp only [Act.put, sa, i64_w, i32_w]
               rfl
              refine pure_ (i := 7) (N := some 33) (v := ?_) (a' := ?_) spec_l23Word.m23 rfl rfl (any_of HT_.out (by kernel_rfl)) (fun _ _ _ h => h) (Or.inl ⟨by rfl, ?_⟩) ?_ ?_
              rotate_left
              ·intro w'
               go_simp
               with_reducible rfl
              rotate_left
              ·simp only [Act.put, sa, i64_w, i32_w]
               rfl
              refine take_ (i := 9) (N := some 35) (v := ?_) (a' := ?_) spec_l23Word.m29 rfl rfl (take_ofW HT_.out HW_.out (by kernel_rfl)) (fun _ _ _ h => h) (Or.inl ⟨by rfl, ?_⟩) hHeld ?_ ?_
              rotate_left
              ·rintro w' ⟨s0, s1, s2, s3, s4, s5⟩
               go_simp
               with_reducible rfl
              rotate_left
              ·simp only [Act.put, sa, i64_w, i32_w]
               rfl
              refine take_ (i := 14) (N := some 40) (v := ?_) (a' := ?_) spec_l23Word.m30 rfl rfl (take_ofW HT_.out HW_.out (by kernel_rfl)) (fun _ _ _ h => h) (Or.inl ⟨by rfl, ?_⟩) hHeld ?_ ?_
              rotate_left
              ·rintro w' ⟨s0, s1, s2, s3, s4, s5⟩
               go_simp
               with_reducible rfl
              rotate_left
              ·simp only [Act.put, sa, i64_w, i32_w]
               rfl
              refine pure_ (i := 15) (N := some 41) (v := ?_) (a' := ?_) spec_l23Word.m31 rfl rfl (any_of HT_.out (by kernel_rfl)) (fun _ _ _ h => h) (Or.inl ⟨by rfl, ?_⟩) ?_ ?_
              rotate_left
              ·intro w'
               go_simp
               with_reducible rfl
              rotate_left
              ·simp only [Act.put, sa, i64_w, i32_w]
               rfl
              refine pure_ (i := 16) (N := some 42) (v := ?_) (a' := ?_) spec_l23Word.m32 rfl rfl (any_of HT_.out (by kernel_rfl)) (fun _ _ _ h => h) (Or.inl ⟨by rfl, ?_⟩) ?_ ?_
              rotate_left
              ·intro w'
               go_simp
               with_reducible rfl
              rotate_left
              ·simp only [Act.put, sa, i64_w, i32_w]
               rfl
              refine last_ (i := 17) (N := none) spec_l23Word.m33 rfl rfl (one_of HT_.out (by kernel_rfl)) (by decide) (fun K hK => ?_)
              have hs96 : w94.cell? ⟨gb295, 0, none⟩ = some (.int .i64 x296000_1) := (kc BK295.out 0).trans rfl
              have hfs96 := kf BK295.out 0
              have hns96_0 := NB294_295.out
              have hms96_0 := NB295_294.out
              have hs97 : w94.cell? ⟨gb295, 1, none⟩ = some (.int .i64 x296001_1) := (kc BK295.out 1).trans rfl
              have hfs97 := kf BK295.out 1
              have hns97_0 := NB294_295.out
              have hms97_0 := NB295_294.out
              refine skip_ (w1 := ?_) (by rfl) rfl ?_ ?_
              rotate_left
              ·go_simp
               rfl
              refine hK.out _ _ ?_
              clear hK K
              refine done_ (done_of HT_.out (by kernel_rfl)) ?_
              have hnb98 := NB295_294.out
              have hnc98 := NB294_295.out
              have hcz99_0 : w94.cell? ⟨gb295, 0, none⟩ = some (.int .i64 x296000_1) := (kc BK295.out 0).trans rfl
              have hcz99_1 : w94.cell? ⟨gb295, 1, none⟩ = some (.int .i64 x296001_1) := (kc BK295.out 1).trans rfl
              have hfz99_0 := kf BK295.out 0
              have hfz99_1 := kf BK295.out 1
              have hcz100_0 : w94.cell? ⟨gb294, 0, none⟩ = some (.int .i64 ((rd_T35 l0 0).f0)) := (kc BK294.out 0).trans rfl
              have hcz100_1 : w94.cell? ⟨gb294, 1, none⟩ = some (.int .i64 ((rd_T35 l0 0).f1)) := (kc BK294.out 1).trans rfl
              have hfz100_0 := kf BK294.out 0
              have hfz100_1 := kf BK294.out 1
              try go_wp2_with (first | ((with_reducible refine gate_dst (N := 68) rfl ?_); refine Kd.R_lit k35 _ 35 ?hg (N := 68) ?hd (xs := ([(⟨wrap64 (x296000_1 + ((rd_T35 y299 x6_1).f0)), wrap64 ((wrap64 (x296001_1 + ((rd_T35 y299 x6_1).f1))) - 1)⟩ : S35), (⟨wrap64 (x296000_1 + ((rd_T35 y299 x6_1).f0)), wrap64 (x296001_1 + ((rd_T35 y299 x6_1).f1))⟩ : S35), (⟨wrap64 ((wrap64 (x296000_1 + ((rd_T35 y299 x6_1).f0))) - 1), wrap64 (x296001_1 + ((rd_T35 y299 x6_1).f1))⟩ : S35), (⟨wrap64 ((wrap64 (x296000_1 + ((rd_T35 y299 x6_1).f0))) - 1), wrap64 ((wrap64 (x296001_1 + ((rd_T35 y299 x6_1).f1))) - 1)⟩ : S35)] : List (S35))) (inner := [.int .i64 (wrap64 (x296000_1 + ((rd_T35 y299 x6_1).f0))), .int .i64 (wrap64 ((wrap64 (x296001_1 + ((rd_T35 y299 x6_1).f1))) - 1)), .int .i64 (wrap64 (x296000_1 + ((rd_T35 y299 x6_1).f0))), .int .i64 (wrap64 (x296001_1 + ((rd_T35 y299 x6_1).f1))), .int .i64 (wrap64 ((wrap64 (x296000_1 + ((rd_T35 y299 x6_1).f0))) - 1)), .int .i64 (wrap64 (x296001_1 + ((rd_T35 y299 x6_1).f1))), .int .i64 (wrap64 ((wrap64 (x296000_1 + ((rd_T35 y299 x6_1).f0))) - 1)), .int .i64 (wrap64 ((wrap64 (x296001_1 + ((rd_T35 y299 x6_1).f1))) - 1))]) (ok := fun _ => True) (okp := fun _ => True) ?hr ?hp (fun _ hk => hk) trivial (Below.refl _ _) (Nat.le_refl _) (by simp) ?_; (case hd => rfl); (case hg => rfl); (case hr => first | (go_simp; done) | (go_simp; rfl)); (case hp => exact (Reps.c2 (show Kd.M k35 _ _ _ (⟨wrap64 (x296000_1 + ((rd_T35 y299 x6_1).f0)), wrap64 ((wrap64 (x296001_1 + ((rd_T35 y299 x6_1).f1))) - 1)⟩ : S35) [.int .i64 (wrap64 (x296000_1 + ((rd_T35 y299 x6_1).f0))), .int .i64 (wrap64 ((wrap64 (x296001_1 + ((rd_T35 y299 x6_1).f1))) - 1))] from (k35_mkM _ _ _ (⟨wrap64 (x296000_1 + ((rd_T35 y299 x6_1).f0)), wrap64 ((wrap64 (x296001_1 + ((rd_T35 y299 x6_1).f1))) - 1)⟩ : S35) )) (Reps.c2 (show Kd.M k35 _ _ _ (⟨wrap64 (x296000_1 + ((rd_T35 y299 x6_1).f0)), wrap64 (x296001_1 + ((rd_T35 y299 x6_1).f1))⟩ : S35) [.int .i64 (wrap64 (x296000_1 + ((rd_T35 y299 x6_1).f0))), .int .i64 (wrap64 (x296001_1 + ((rd_T35 y299 x6_1).f1)))] from (k35_mkM _ _ _ (⟨wrap64 (x296000_1 + ((rd_T35 y299 x6_1).f0)), wrap64 (x296001_1 + ((rd_T35 y299 x6_1).f1))⟩ : S35) )) (Reps.c2 (show Kd.M k35 _ _ _ (⟨wrap64 ((wrap64 (x296000_1 + ((rd_T35 y299 x6_1).f0))) - 1), wrap64 (x296001_1 + ((rd_T35 y299 x6_1).f1))⟩ : S35) [.int .i64 (wrap64 ((wrap64 (x296000_1 + ((rd_T35 y299 x6_1).f0))) - 1)), .int .i64 (wrap64 (x296001_1 + ((rd_T35 y299 x6_1).f1)))] from (k35_mkM _ _ _ (⟨wrap64 ((wrap64 (x296000_1 + ((rd_T35 y299 x6_1).f0))) - 1), wrap64 (x296001_1 + ((rd_T35 y299 x6_1).f1))⟩ : S35) )) (Reps.c2 (show Kd.M k35 _ _ _ (⟨wrap64 ((wrap64 (x296000_1 + ((rd_T35 y299 x6_1).f0))) - 1), wrap64 ((wrap64 (x296001_1 + ((rd_T35 y299 x6_1).f1))) - 1)⟩ : S35) [.int .i64 (wrap64 ((wrap64 (x296000_1 + ((rd_T35 y299 x6_1).f0))) - 1)), .int .i64 (wrap64 ((wrap64 (x296001_1 + ((rd_T35 y299 x6_1).f1))) - 1))] from (k35_mkM _ _ _ (⟨wrap64 ((wrap64 (x296000_1 + ((rd_T35 y299 x6_1).f0))) - 1), wrap64 ((wrap64 (x296001_1 + ((rd_T35 y299 x6_1).f1))) - 1)⟩ : S35) )) (Reps.none _ _)))))); intro v305 w101 ho102 hb hg_ hnew_; clear hg_ hnew_; (first | rw [← Ny304.out] at ho102 | (simp only [Int.reduceToNat] at ho102; rw [← Ny304.out] at ho102)); have n0_ := am (Kd.R_below (by (with_reducible repeat (first | apply Kd.R_alloc | apply Kd.R_drewN | apply Kd.R_drew)); exact (Kd.R_mono (Kd.R_far (p := ⟨gb295, 1, none⟩) (Kd.R_far (p := ⟨gb295, 0, none⟩) (Kd.R_types HO298.out BK295.out (by decide)) (fun _ hk => hk.2) (.int .i64 (wrap64 (x296000_1 + ((rd_T35 y299 x6_1).f0))))) (fun _ hk => hk.2) (.int .i64 (wrap64 (x296001_1 + ((rd_T35 y299 x6_1).f1))))) (fun _ h_ => h_.1))) hb); have n1_ := am (Kd.R_elder' (by (with_reducible repeat (first | apply Kd.R_alloc | apply Kd.R_drewN | apply Kd.R_drew)); exact (Kd.R_mono (Kd.R_far (p := ⟨gb295, 1, none⟩) (Kd.R_far (p := ⟨gb295, 0, none⟩) (Kd.R_mono HO301.out (fun k_ hk => (⟨hk, hk.2⟩ : _ ∧ k_ ≠ gb295))) (fun _ hk => hk.2) (.int .i64 (wrap64 (x296000_1 + ((rd_T35 y299 x6_1).f0))))) (fun _ hk => hk.2) (.int .i64 (wrap64 (x296001_1 + ((rd_T35 y299 x6_1).f1))))) (fun _ h_ => h_.1))) (Kd.R_base ho102) hb); have n2_ := am (Kd.R_lower (Kd.R_newB (Kd.R_newB (Kd.R_new' ho102 (Kd.R_lt (by (with_reducible repeat (first | apply Kd.R_alloc | apply Kd.R_drewN | apply Kd.R_drew)); exact (Kd.R_mono (Kd.R_far (p := ⟨gb295, 1, none⟩) (Kd.R_far (p := ⟨gb295, 0, none⟩) (Kd.R_mono HO301.out (fun k_ hk => (⟨hk, hk.2⟩ : _ ∧ k_ ≠ gb295))) (fun _ hk => hk.2) (.int .i64 (wrap64 (x296000_1 + ((rd_T35 y299 x6_1).f0))))) (fun _ hk => hk.2) (.int .i64 (wrap64 (x296001_1 + ((rd_T35 y299 x6_1).f1))))) (fun _ h_ => h_.1))))) (g := gb294) (o := .cells #[.int .i64 ((rd_T35 l0 0).f0), .int .i64 ((rd_T35 l0 0).f1)] 35 (0, 0)) (by (with_reducible repeat (first | refine Bk2 ?_ _ | refine Bk3 ?_ | refine Bk1 ?_ _)); refine blk_far ?_ NB294_295.out _; (with_reducible repeat (first | refine Bk2 ?_ _ | refine Bk3 ?_ | refine Bk1 ?_ _)); refine blk_far ?_ NB294_295.out _; (with_reducible repeat (first | refine Bk2 ?_ _ | refine Bk3 ?_ | refine Bk1 ?_ _)); exact BK294.out)) (g := gb295) (o := .cells #[.int .i64 (wrap64 (x296000_1 + ((rd_T35 y299 x6_1).f0))), .int .i64 (wrap64 (x296001_1 + ((rd_T35 y299 x6_1).f1)))] 35 (0, 0)) (by (with_reducible repeat (first | refine Bk2 ?_ _ | refine Bk3 ?_ | refine Bk1 ?_ _)); refine blk_put (cs := #[.int .i64 (wrap64 (x296000_1 + ((rd_T35 y299 x6_1).f0))), .int .i64 x296001_1]) ?_ 1 _ rfl; (with_reducible repeat (first | refine Bk2 ?_ _ | refine Bk3 ?_ | refine Bk1 ?_ _)); refine blk_put (cs := #[.int .i64 x296000_1, .int .i64 x296001_1]) ?_ 0 _ rfl; (with_reducible repeat (first | refine Bk2 ?_ _ | refine Bk3 ?_ | refine Bk1 ?_ _)); exact BK295.out)) (Bb5 (by repeat (first | (with_reducible first | exact HB.out | apply Bb1 | apply Bb2 | apply Bb3 | refine Bb4 ?_ GE294.out | refine Bb4 ?_ GE295.out) | exact HB.out)))); have n3_ := am (Bk4 (g := gb294) (o := .cells #[.int .i64 ((rd_T35 l0 0).f0), .int .i64 ((rd_T35 l0 0).f1)] 35 (0, 0)) (by (with_reducible repeat (first | refine Bk2 ?_ _ | refine Bk3 ?_ | refine Bk1 ?_ _)); refine blk_far ?_ NB294_295.out _; (with_reducible repeat (first | refine Bk2 ?_ _ | refine Bk3 ?_ | refine Bk1 ?_ _)); refine blk_far ?_ NB294_295.out _; (with_reducible repeat (first | refine Bk2 ?_ _ | refine Bk3 ?_ | refine Bk1 ?_ _)); exact BK294.out) hb); have n4_ := am (Bk4 (g := gb295) (o := .cells #[.int .i64 (wrap64 (x296000_1 + ((rd_T35 y299 x6_1).f0))), .int .i64 (wrap64 (x296001_1 + ((rd_T35 y299 x6_1).f1)))] 35 (0, 0)) (by (with_reducible repeat (first | refine Bk2 ?_ _ | refine Bk3 ?_ | refine Bk1 ?_ _)); refine blk_put (cs := #[.int .i64 (wrap64 (x296000_1 + ((rd_T35 y299 x6_1).f0))), .int .i64 x296001_1]) ?_ 1 _ rfl; (with_reducible repeat (first | refine Bk2 ?_ _ | refine Bk3 ?_ | refine Bk1 ?_ _)); refine blk_put (cs := #[.int .i64 x296000_1, .int .i64 x296001_1]) ?_ 0 _ rfl; (with_reducible repeat (first | refine Bk2 ?_ _ | refine Bk3 ?_ | refine Bk1 ?_ _)); exact BK295.out) hb); have n5_ := am (Bb6 (by repeat (first | (with_reducible first | exact HB.out | apply Bb1 | apply Bb2 | apply Bb3 | refine Bb4 ?_ GE294.out | refine Bb4 ?_ GE295.out) | exact HB.out)) hb); clear HO298; clear HO301; clear BK294; clear BK295; clear HB; have HO298 := n0_; have HO301 := n1_; have HO306 := n2_; have BK294 := n3_; have BK295 := n4_; have HB := n5_; clear n0_ n1_ n2_ n3_ n4_ n5_; clear hb ho102))
              have n0_ := am (Kd.R_drew HO298.out)
              have n1_ := am (Kd.R_drew HO301.out)
              have n2_ := am (Kd.R_drew HO306.out)
              have n3_ := am (Bk3 BK294.out)
              have n4_ := am (Bk3 BK295.out)
              have n5_ := am (Bb3 HB.out)
              clear HO298
              clear HO301
              clear HO306
              clear BK294
              clear BK295
              clear HB
              have HO298 := n0_
              have HO301 := n1_
              have HO306 := n2_
              have BK294 := n3_
              have BK295 := n4_
              have HB := n5_
              clear n0_ n1_ n2_ n3_ n4_ n5_
              obtain ⟨Ao104, co104, eo104⟩ := Kd.R_slice HO306.out
              (first | subst eo104 | (injection eo104 with f1_ f2_ f3_; have f4_ := f1_.symm; have f5_ := f3_.symm; clear f1_ f2_ f3_; subst f4_; subst f5_))
              have p307 : 0 ≤ (x6_1 : Int) := of_decide_eq_true (by first | (with_reducible assumption) | assumption)
              have q307 : x6_1 < (y304.length : Int) := of_decide_eq_true (by first | (with_reducible assumption) | assumption)
              obtain ⟨ad307, e307, hx307_0, hx307_1⟩ := at_T35 (Kd.R_reads' HO306.out).2.2 x6_1 p307 q307
              cases e307
              replace p307 := eq_true p307
              replace q307 := eq_true q307
              have p308 : 0 ≤ ((ji28) : Int) := of_decide_eq_true (by first | (with_reducible assumption) | assumption)
              have q308 : (ji28) < (y304.length : Int) := of_decide_eq_true (by first | (with_reducible assumption) | assumption)
              obtain ⟨ad308, e308, hx308_0, hx308_1⟩ := at_T35 (Kd.R_reads' HO306.out).2.2 (ji28) p308 q308
              obtain rfl : ad307 = ad308 := (by injection e308)
              replace p308 := eq_true p308
              replace q308 := eq_true q308
              refine start_ (n := 14) (S := fun w' => w'.cell? (ad307.add ((x6_1).toNat * 2)) = some (.int .i64 ((rd_T35 y304 x6_1).f0)) ∧ w'.cell? ⟨(ad307.add ((x6_1).toNat * 2)).block, (ad307.add ((x6_1).toNat * 2)).off + 1, none⟩ = some (.int .i64 ((rd_T35 y304 x6_1).f1)) ∧ w'.cell? (ad307.add (((ji28)).toNat * 2)) = some (.int .i64 ((rd_T35 y304 (ji28)).f0)) ∧ w'.cell? ⟨(ad307.add (((ji28)).toNat * 2)).block, (ad307.add (((ji28)).toNat * 2)).off + 1, none⟩ = some (.int .i64 ((rd_T35 y304 (ji28)).f1))) (ds := []) spec_l23Word.m1 (by kernel_rfl) rfl rfl ⟨hx307_0, hx307_1, hx308_0, hx308_1⟩ (fun hHeld => ?_); refine with_tabW spec_l23Word.tab11 spec_l23Word.bits11 (fun HT_ HW_ => ?_)
              generalize w101.drew = w103 at HO298 HO301 HO306 BK294 BK295 HB hx307_0 hx307_1 hx308_0 hx308_1 hHeld ⊢
              refine pure_ (i := 0) (N := some 69) (v := ?_) (a' := ?_) spec_l23Word.m3 rfl rfl (any_of HT_.out (by kernel_rfl)) (fun _ _ _ h => h) (Or.inl ⟨by rfl, ?_⟩) ?_ ?_
              rotate_left
              ·intro w'
               go_simp
               with_reducible rfl
              rotate_left
              ·simp only [Act.put, sa, i64_w, i32_w]
               rfl
              refine pure_ (i := 1) (N := some 70) (v := ?_) (a' := ?_) spec_l23Word.m13 rfl rfl (any_of HT_.out (by kernel_rfl)) (fun _ _ _ h => h) (Or.inl ⟨by rfl, ?_⟩) ?_ ?_
              rotate_left
              ·intro w'
               go_simp
               with_reducible rfl
              rotate_left
              ·simp only [Act.put, sa, i64_w, i32_w]
               rfl
              refine pure_ (i := 2) (N := some 71) (v := ?_) (a' := ?_) spec_l23Word.m14 rfl rfl (any_of HT_.out (by kernel_rfl)) (fun _ _ _ h => h) (Or.inl ⟨by rfl, ?_⟩) ?_ ?_
              rotate_left
              ·intro w'
               go_simp
               with_reducible rfl
              rotate_left
              ·simp only [Act.put, sa, i64_w, i32_w]
               rfl
              refine pure_ (i := 4) (N := some 73) (v := ?_) (a' := ?_) spec_l23Word.m15 rfl rfl (any_of HT_.out (by kernel_rfl)) (fun _ _ _ h => h) (Or.inl ⟨by rfl, ?_⟩) ?_ ?_
              rotate_left
              ·intro w'
               go_simp
               with_reducible rfl
              rotate_left
              ·simp only [Act.put, sa, i64_w, i32_w]
               rfl
              refine pure_ (i := 5) (N := some 74) (v := ?_) (a' := ?_) spec_l23Word.m16 rfl rfl (any_of HT_.out (by kernel_rfl)) (fun _ _ _ h => h) (Or.inl ⟨by rfl, ?_⟩) ?_ ?_
              rotate_left
              ·intro w'
               go_simp
               with_reducible rfl
              rotate_left
              ·simp only [Act.put, sa, i64_w, i32_w]
               rfl
              refine pure_ (i := 6) (N := some 75) (v := ?_) (a' := ?_) spec_l23Word.m17 rfl rfl (any_of HT_.out (by kernel_rfl)) (fun _ _ _ h => h) (Or.inl ⟨by rfl, ?_⟩) ?_ ?_
              rotate_left
              ·intro w'
               go_simp
               with_reducible rfl
              rotate_left
              ·simp only [Act.put, sa, i64_w, i32_w]
               rfl
              refine pure_ (i := 7) (N := some 76) (v := ?_) (a' := ?_) spec_l23Word.m18 rfl rfl (any_of HT_.out (by kernel_rfl)) (fun _ _ _ h => h) (Or.inl ⟨by rfl, ?_⟩) ?_ ?_
              rotate_left
              ·intro w'
               go_simp
               with_reducible rfl
              rotate_left
              ·simp only [Act.put, sa, i64_w, i32_w]
               rfl
              refine pure_ (i := 8) (N := some 77) (v := ?_) (a' := ?_) spec_l23Word.m19 rfl rfl (any_of HT_.out (by kernel_rfl)) (fun _ _ _ h => h) (Or.inl ⟨by rfl, ?_⟩) ?_ ?_
              rotate_left
              ·intro w'
               go_simp
               with_reducible rfl
              rotate_left
              ·simp only [Act.put, sa, i64_w, i32_w]
               rfl
              refine take_ (i := 3) (N := some 72) (v := ?_) (a' := ?_) spec_l23Word.m22 rfl rfl (take_ofW HT_.out HW_.out (by kernel_rfl)) (fun _ _ _ h => h) (Or.inl ⟨by rfl, ?_⟩) hHeld ?_ ?_
              rotate_left
              ·rintro w' ⟨s0, s1, s2, s3⟩
               go_simp
               with_reducible rfl
              rotate_left
              ·simp only [Act.put, sa, i64_w, i32_w]
               rfl
              refine take_ (i := 9) (N := some 78) (v := ?_) (a' := ?_) spec_l23Word.m24 rfl rfl (take_ofW HT_.out HW_.out (by kernel_rfl)) (fun _ _ _ h => h) (Or.inl ⟨by rfl, ?_⟩) hHeld ?_ ?_
              rotate_left
              ·rintro w' ⟨s0, s1, s2, s3⟩
               go_simp
               with_reducible rfl
              rotate_left
              ·simp only [Act.put, sa, i64_w, i32_w]
               rfl
              refine join_ (σ := Nat × Nat) 2 spec_l23Word.m27 (fun s_ => [(9, .pointer (some ⟨s_.1, 0, none⟩)), (10, .pointer (some ⟨s_.2, 0, none⟩))]) (fun s_ w' => (w'.cell? (ad307.add ((x6_1).toNat * 2)) = some (.int .i64 ((rd_T35 y304 x6_1).f0)) ∧ w'.cell? ⟨(ad307.add ((x6_1).toNat * 2)).block, (ad307.add ((x6_1).toNat * 2)).off + 1, none⟩ = some (.int .i64 ((rd_T35 y304 x6_1).f1)) ∧ w'.cell? (ad307.add (((ji28)).toNat * 2)) = some (.int .i64 ((rd_T35 y304 (ji28)).f0)) ∧ w'.cell? ⟨(ad307.add (((ji28)).toNat * 2)).block, (ad307.add (((ji28)).toNat * 2)).off + 1, none⟩ = some (.int .i64 ((rd_T35 y304 (ji28)).f1))) ∧ (Kd.R (Kd.int .u8) 5 w' w.heap.size (fun _ => True) v297 y296) ∧ (Kd.R k35 35 w' w.heap.size (fun k_ => some k_ ≠ (.slice (some ad307) y304.length co104 : Value).ownBlock ∧ k_ ≠ gb294 ∧ k_ ≠ gb295 ∧ k_ ≠ s_.1 ∧ k_ ≠ s_.2) (.slice (some ad302) y299.length co95) y299) ∧ (Kd.R k35 35 w' w.heap.size (fun k_ => some k_ ≠ (.slice (some ad302) y299.length co95 : Value).ownBlock ∧ k_ ≠ gb294 ∧ k_ ≠ gb295 ∧ k_ ≠ s_.1 ∧ k_ ≠ s_.2) (.slice (some ad307) y304.length co104) y304) ∧ (w'.heap[gb294]? = some (.cells #[.int .i64 ((rd_T35 l0 0).f0), .int .i64 ((rd_T35 l0 0).f1)] 35 (0, 0))) ∧ (w'.heap[gb295]? = some (.cells #[.int .i64 (wrap64 (x296000_1 + ((rd_T35 y299 x6_1).f0))), .int .i64 (wrap64 (x296001_1 + ((rd_T35 y299 x6_1).f1)))] 35 (0, 0))) ∧ (w'.heap[s_.1]? = some (.cells #[.int .i64 0, .int .i64 0] 35 (0, 0))) ∧ (w'.heap[s_.2]? = some (.cells #[.int .i64 0, .int .i64 0] 35 (0, 0))) ∧ (w.heap.size ≤ s_.1) ∧ (w.heap.size ≤ s_.1) ∧ (gb294 ≠ s_.1) ∧ (s_.1 ≠ gb294) ∧ (gb295 ≠ s_.1) ∧ (s_.1 ≠ gb295) ∧ (s_.2 ≠ s_.1) ∧ (s_.1 ≠ s_.2) ∧ (w.heap.size ≤ s_.2) ∧ (w.heap.size ≤ s_.2) ∧ (gb294 ≠ s_.2) ∧ (s_.2 ≠ gb294) ∧ (gb295 ≠ s_.2) ∧ (s_.2 ≠ gb295) ∧ (Below w.heap.size w w')) ?_ ?_
              rotate_left
              ·intro hCont
               refine two_ (i := 10) (j := 11) (Ni := some 9) (Nj := some 10) spec_l23Word.m26 spec_l23Word.m25 rfl rfl rfl rfl (two_of HT_.out (by kernel_rfl)) (by decide) (by decide) (fun K hK => ?_) (fun K hK => ?_)
               ·skip
                refine box_step ?hg (N := 9) ?hd (cs := #[.int .i64 0, .int .i64 0]) (t := 35) ?hr ?_; (case hd => rfl); (case hg => rfl); (case hr => first | (go_simp; done) | (go_simp; rfl))
                intro gb309 hg w105 hbox hb
                have HS0_ := (hb.cell (World.block_lt_of_cell? _ _ (hHeld.1))).trans (hHeld.1)
                have HS1_ := (hb.cell (World.block_lt_of_cell? _ _ (hHeld.2.1))).trans (hHeld.2.1)
                have HS2_ := (hb.cell (World.block_lt_of_cell? _ _ (hHeld.2.2.1))).trans (hHeld.2.2.1)
                have HS3_ := (hb.cell (World.block_lt_of_cell? _ _ (hHeld.2.2.2))).trans (hHeld.2.2.2)
                have n0_ := am (Kd.R_below (by (with_reducible repeat (first | apply Kd.R_alloc | apply Kd.R_drewN | apply Kd.R_drew)); exact HO298.out) hb)
                have n1_ := am (Kd.R_below (Kd.R_elderB (by (with_reducible repeat (first | apply Kd.R_alloc | apply Kd.R_drewN | apply Kd.R_drew)); exact HO301.out) gb309 (Nat.le_of_eq hg.symm)) hb)
                have n2_ := am (Kd.R_below (Kd.R_elderB (by (with_reducible repeat (first | apply Kd.R_alloc | apply Kd.R_drewN | apply Kd.R_drew)); exact HO306.out) gb309 (Nat.le_of_eq hg.symm)) hb)
                have n3_ := am (Bk4 (g := gb294) (o := .cells #[.int .i64 ((rd_T35 l0 0).f0), .int .i64 ((rd_T35 l0 0).f1)] 35 (0, 0)) (by (with_reducible repeat (first | refine Bk2 ?_ _ | refine Bk3 ?_ | refine Bk1 ?_ _)); exact BK294.out) hb)
                have n4_ := am (Bk4 (g := gb295) (o := .cells #[.int .i64 (wrap64 (x296000_1 + ((rd_T35 y299 x6_1).f0))), .int .i64 (wrap64 (x296001_1 + ((rd_T35 y299 x6_1).f1)))] 35 (0, 0)) (by (with_reducible repeat (first | refine Bk2 ?_ _ | refine Bk3 ?_ | refine Bk1 ?_ _)); exact BK295.out) hb)
                have n5_ := am (Bb6 (by repeat (first | (with_reducible first | exact HB.out | apply Bb1 | apply Bb2 | apply Bb3 | refine Bb4 ?_ GE294.out | refine Bb4 ?_ GE295.out) | exact HB.out)) hb)
                have n6_ := am (hbox)
                have n7_ := am ((by rw [hg]; exact (Bb5 (by repeat (first | (with_reducible first | exact HB.out | apply Bb1 | apply Bb2 | apply Bb3 | refine Bb4 ?_ GE294.out | refine Bb4 ?_ GE295.out) | exact HB.out))) : w.heap.size ≤ gb309))
                have n8_ := am ((by rw [hg]; exact (Bb5 (by repeat (first | (with_reducible first | exact HB.out | apply Bb1 | apply Bb2 | apply Bb3 | refine Bb4 ?_ GE294.out | refine Bb4 ?_ GE295.out) | exact HB.out))) : w.heap.size ≤ gb309))
                have n9_ := am ((by rw [hg]; exact nl (Bk5 (g := gb294) (o := .cells #[.int .i64 ((rd_T35 l0 0).f0), .int .i64 ((rd_T35 l0 0).f1)] 35 (0, 0)) (by (with_reducible repeat (first | refine Bk2 ?_ _ | refine Bk3 ?_ | refine Bk1 ?_ _)); exact BK294.out)) : gb294 ≠ gb309))
                have n10_ := am ((by rw [hg]; exact ng (Bk5 (g := gb294) (o := .cells #[.int .i64 ((rd_T35 l0 0).f0), .int .i64 ((rd_T35 l0 0).f1)] 35 (0, 0)) (by (with_reducible repeat (first | refine Bk2 ?_ _ | refine Bk3 ?_ | refine Bk1 ?_ _)); exact BK294.out)) : gb309 ≠ gb294))
                have n11_ := am ((by rw [hg]; exact nl (Bk5 (g := gb295) (o := .cells #[.int .i64 (wrap64 (x296000_1 + ((rd_T35 y299 x6_1).f0))), .int .i64 (wrap64 (x296001_1 + ((rd_T35 y299 x6_1).f1)))] 35 (0, 0)) (by (with_reducible repeat (first | refine Bk2 ?_ _ | refine Bk3 ?_ | refine Bk1 ?_ _)); exact BK295.out)) : gb295 ≠ gb309))
                have n12_ := am ((by rw [hg]; exact ng (Bk5 (g := gb295) (o := .cells #[.int .i64 (wrap64 (x296000_1 + ((rd_T35 y299 x6_1).f0))), .int .i64 (wrap64 (x296001_1 + ((rd_T35 y299 x6_1).f1)))] 35 (0, 0)) (by (with_reducible repeat (first | refine Bk2 ?_ _ | refine Bk3 ?_ | refine Bk1 ?_ _)); exact BK295.out)) : gb309 ≠ gb295))
                clear HO298
                clear HO301
                clear HO306
                clear BK294
                clear BK295
                clear HB
                have HO298 := n0_
                have HO301 := n1_
                have HO306 := n2_
                have BK294 := n3_
                have BK295 := n4_
                have HB := n5_
                have BK309 := n6_
                have GW309 := n7_
                have GE309 := n8_
                have NB294_309 := n9_
                have NB309_294 := n10_
                have NB295_309 := n11_
                have NB309_295 := n12_
                clear n0_ n1_ n2_ n3_ n4_ n5_ n6_ n7_ n8_ n9_ n10_ n11_ n12_
                clear hb hbox hg
                refine hK.out _ _ ⟨HS0_, HS1_, HS2_, HS3_⟩ (fun hHeld => ?_)
                clear hK K
                refine norm_ (a' := ?_) ?_ ?_
                rotate_left
                ·show Act.put _ (some 9) _ = _
                 simp only [Act.put, sa, i64_w, i32_w]
                 rfl
                refine one_ (i := 11) (N := some 10) spec_l23Word.m27 rfl rfl (one_of HT_.out (by kernel_rfl)) (by decide) (fun K hK => ?_)
                refine box_step ?hg (N := 10) ?hd (cs := #[.int .i64 0, .int .i64 0]) (t := 35) ?hr ?_; (case hd => rfl); (case hg => rfl); (case hr => first | (go_simp; done) | (go_simp; rfl))
                intro gb310 hg w106 hbox hb
                have HS0_ := (hb.cell (World.block_lt_of_cell? _ _ (hHeld.1))).trans (hHeld.1)
                have HS1_ := (hb.cell (World.block_lt_of_cell? _ _ (hHeld.2.1))).trans (hHeld.2.1)
                have HS2_ := (hb.cell (World.block_lt_of_cell? _ _ (hHeld.2.2.1))).trans (hHeld.2.2.1)
                have HS3_ := (hb.cell (World.block_lt_of_cell? _ _ (hHeld.2.2.2))).trans (hHeld.2.2.2)
                have n0_ := am (Kd.R_below (by (with_reducible repeat (first | apply Kd.R_alloc | apply Kd.R_drewN | apply Kd.R_drew)); exact HO298.out) hb)
                have n1_ := am (Kd.R_below (Kd.R_elderB (by (with_reducible repeat (first | apply Kd.R_alloc | apply Kd.R_drewN | apply Kd.R_drew)); exact HO301.out) gb310 (Nat.le_of_eq hg.symm)) hb)
                have n2_ := am (Kd.R_below (Kd.R_elderB (by (with_reducible repeat (first | apply Kd.R_alloc | apply Kd.R_drewN | apply Kd.R_drew)); exact HO306.out) gb310 (Nat.le_of_eq hg.symm)) hb)
                have n3_ := am (Bk4 (g := gb294) (o := .cells #[.int .i64 ((rd_T35 l0 0).f0), .int .i64 ((rd_T35 l0 0).f1)] 35 (0, 0)) (by (with_reducible repeat (first | refine Bk2 ?_ _ | refine Bk3 ?_ | refine Bk1 ?_ _)); exact BK294.out) hb)
                have n4_ := am (Bk4 (g := gb295) (o := .cells #[.int .i64 (wrap64 (x296000_1 + ((rd_T35 y299 x6_1).f0))), .int .i64 (wrap64 (x296001_1 + ((rd_T35 y299 x6_1).f1)))] 35 (0, 0)) (by (with_reducible repeat (first | refine Bk2 ?_ _ | refine Bk3 ?_ | refine Bk1 ?_ _)); exact BK295.out) hb)
                have n5_ := am (Bk4 (g := gb309) (o := .cells #[.int .i64 0, .int .i64 0] 35 (0, 0)) (by (with_reducible repeat (first | refine Bk2 ?_ _ | refine Bk3 ?_ | refine Bk1 ?_ _)); exact BK309.out) hb)
                have n6_ := am (Bb6 (by repeat (first | (with_reducible first | exact HB.out | apply Bb1 | apply Bb2 | apply Bb3 | refine Bb4 ?_ GE294.out | refine Bb4 ?_ GE295.out | refine Bb4 ?_ GE309.out) | exact HB.out)) hb)
                have n7_ := am (hbox)
                have n8_ := am ((by rw [hg]; exact (Bb5 (by repeat (first | (with_reducible first | exact HB.out | apply Bb1 | apply Bb2 | apply Bb3 | refine Bb4 ?_ GE294.out | refine Bb4 ?_ GE295.out | refine Bb4 ?_ GE309.out) | exact HB.out))) : w.heap.size ≤ gb310))
                have n9_ := am ((by rw [hg]; exact (Bb5 (by repeat (first | (with_reducible first | exact HB.out | apply Bb1 | apply Bb2 | apply Bb3 | refine Bb4 ?_ GE294.out | refine Bb4 ?_ GE295.out | refine Bb4 ?_ GE309.out) | exact HB.out))) : w.heap.size ≤ gb310))
                have n10_ := am ((by rw [hg]; exact nl (Bk5 (g := gb294) (o := .cells #[.int .i64 ((rd_T35 l0 0).f0), .int .i64 ((rd_T35 l0 0).f1)] 35 (0, 0)) (by (with_reducible repeat (first | refine Bk2 ?_ _ | refine Bk3 ?_ | refine Bk1 ?_ _)); exact BK294.out)) : gb294 ≠ gb310))
                have n11_ := am ((by rw [hg]; exact ng (Bk5 (g := gb294) (o := .cells #[.int .i64 ((rd_T35 l0 0).f0), .int .i64 ((rd_T35 l0 0).f1)] 35 (0, 0)) (by (with_reducible repeat (first | refine Bk2 ?_ _ | refine Bk3 ?_ | refine Bk1 ?_ _)); exact BK294.out)) : gb310 ≠ gb294))
                have n12_ := am ((by rw [hg]; exact nl (Bk5 (g := gb295) (o := .cells #[.int .i64 (wrap64 (x296000_1 + ((rd_T35 y299 x6_1).f0))), .int .i64 (wrap64 (x296001_1 + ((rd_T35 y299 x6_1).f1)))] 35 (0, 0)) (by (with_reducible repeat (first | refine Bk2 ?_ _ | refine Bk3 ?_ | refine Bk1 ?_ _)); exact BK295.out)) : gb295 ≠ gb310))
                have n13_ := am ((by rw [hg]; exact ng (Bk5 (g := gb295) (o := .cells #[.int .i64 (wrap64 (x296000_1 + ((rd_T35 y299 x6_1).f0))), .int .i64 (wrap64 (x296001_1 + ((rd_T35 y299 x6_1).f1)))] 35 (0, 0)) (by (with_reducible repeat (first | refine Bk2 ?_ _ | refine Bk3 ?_ | refine Bk1 ?_ _)); exact BK295.out)) : gb310 ≠ gb295))
                have n14_ := am ((by rw [hg]; exact nl (Bk5 (g := gb309) (o := .cells #[.int .i64 0, .int .i64 0] 35 (0, 0)) (by (with_reducible repeat (first | refine Bk2 ?_ _ | refine Bk3 ?_ | refine Bk1 ?_ _)); exact BK309.out)) : gb309 ≠ gb310))
                have n15_ := am ((by rw [hg]; exact ng (Bk5 (g := gb309) (o := .cells #[.int .i64 0, .int .i64 0] 35 (0, 0)) (by (with_reducible repeat (first | refine Bk2 ?_ _ | refine Bk3 ?_ | refine Bk1 ?_ _)); exact BK309.out)) : gb310 ≠ gb309))
                clear HO298
                clear HO301
                clear HO306
                clear BK294
                clear BK295
                clear BK309
                clear HB
                have HO298 := n0_
                have HO301 := n1_
                have HO306 := n2_
                have BK294 := n3_
                have BK295 := n4_
                have BK309 := n5_
                have HB := n6_
                have BK310 := n7_
                have GW310 := n8_
                have GE310 := n9_
                have NB294_310 := n10_
                have NB310_294 := n11_
                have NB295_310 := n12_
                have NB310_295 := n13_
                have NB309_310 := n14_
                have NB310_309 := n15_
                clear n0_ n1_ n2_ n3_ n4_ n5_ n6_ n7_ n8_ n9_ n10_ n11_ n12_ n13_ n14_ n15_
                clear hb hbox hg
                refine hK.out _ _ ⟨HS0_, HS1_, HS2_, HS3_⟩ (fun hHeld => ?_)
                clear hK K
                refine norm_ (a' := ?_) ?_ ?_
                rotate_left
                ·show Act.put _ (some 10) _ = _
                 simp only [Act.put, sa, i64_w, i32_w]
                 rfl
                exact norm_ (by simp only [putAll, Act.put, sa]) (hCont (gb309, gb310) _ ⟨hHeld, (by (with_reducible repeat (first | apply Kd.R_alloc | apply Kd.R_drewN | apply Kd.R_drew)); exact HO298.out), (by (with_reducible repeat (first | apply Kd.R_alloc | apply Kd.R_drewN | apply Kd.R_drew)); exact Kd.R_mono HO301.out (fun _ hk => ⟨hk.1.1.2, ⟨hk.1.1.1.1.2, ⟨hk.1.1.1.2, ⟨hk.1.2, hk.2⟩⟩⟩⟩)), (by (with_reducible repeat (first | apply Kd.R_alloc | apply Kd.R_drewN | apply Kd.R_drew)); exact Kd.R_mono HO306.out (fun _ hk => ⟨hk.1.1.1.1.2, ⟨hk.1.1.1.2, ⟨hk.1.1.2, ⟨hk.1.2, hk.2⟩⟩⟩⟩)), (by (with_reducible repeat (first | refine Bk2 ?_ _ | refine Bk3 ?_ | refine Bk1 ?_ _)); exact BK294.out), (by (with_reducible repeat (first | refine Bk2 ?_ _ | refine Bk3 ?_ | refine Bk1 ?_ _)); exact BK295.out), (by (with_reducible repeat (first | refine Bk2 ?_ _ | refine Bk3 ?_ | refine Bk1 ?_ _)); exact BK309.out), (by (with_reducible repeat (first | refine Bk2 ?_ _ | refine Bk3 ?_ | refine Bk1 ?_ _)); exact BK310.out), GW309.out, GE309.out, NB294_309.out, NB309_294.out, NB295_309.out, NB309_295.out, NB310_309.out, NB309_310.out, GW310.out, GE310.out, NB294_310.out, NB310_294.out, NB295_310.out, NB310_295.out, (by repeat (first | (with_reducible first | exact HB.out | apply Bb1 | apply Bb2 | apply Bb3 | refine Bb4 ?_ GE294.out | refine Bb4 ?_ GE295.out | refine Bb4 ?_ GE309.out | refine Bb4 ?_ GE310.out) | exact HB.out))⟩)
               ·skip
                refine box_step ?hg (N := 10) ?hd (cs := #[.int .i64 0, .int .i64 0]) (t := 35) ?hr ?_; (case hd => rfl); (case hg => rfl); (case hr => first | (go_simp; done) | (go_simp; rfl))
                intro gb310 hg w105 hbox hb
                have HS0_ := (hb.cell (World.block_lt_of_cell? _ _ (hHeld.1))).trans (hHeld.1)
                have HS1_ := (hb.cell (World.block_lt_of_cell? _ _ (hHeld.2.1))).trans (hHeld.2.1)
                have HS2_ := (hb.cell (World.block_lt_of_cell? _ _ (hHeld.2.2.1))).trans (hHeld.2.2.1)
                have HS3_ := (hb.cell (World.block_lt_of_cell? _ _ (hHeld.2.2.2))).trans (hHeld.2.2.2)
                have n0_ := am (Kd.R_below (by (with_reducible repeat (first | apply Kd.R_alloc | apply Kd.R_drewN | apply Kd.R_drew)); exact HO298.out) hb)
                have n1_ := am (Kd.R_below (Kd.R_elderB (by (with_reducible repeat (first | apply Kd.R_alloc | apply Kd.R_drewN | apply Kd.R_drew)); exact HO301.out) gb310 (Nat.le_of_eq hg.symm)) hb)
                have n2_ := am (Kd.R_below (Kd.R_elderB (by (with_reducible repeat (first | apply Kd.R_alloc | apply Kd.R_drewN | apply Kd.R_drew)); exact HO306.out) gb310 (Nat.le_of_eq hg.symm)) hb)
                have n3_ := am (Bk4 (g := gb294) (o := .cells #[.int .i64 ((rd_T35 l0 0).f0), .int .i64 ((rd_T35 l0 0).f1)] 35 (0, 0)) (by (with_reducible repeat (first | refine Bk2 ?_ _ | refine Bk3 ?_ | refine Bk1 ?_ _)); exact BK294.out) hb)
                have n4_ := am (Bk4 (g := gb295) (o := .cells #[.int .i64 (wrap64 (x296000_1 + ((rd_T35 y299 x6_1).f0))), .int .i64 (wrap64 (x296001_1 + ((rd_T35 y299 x6_1).f1)))] 35 (0, 0)) (by (with_reducible repeat (first | refine Bk2 ?_ _ | refine Bk3 ?_ | refine Bk1 ?_ _)); exact BK295.out) hb)
                have n5_ := am (Bb6 (by repeat (first | (with_reducible first | exact HB.out | apply Bb1 | apply Bb2 | apply Bb3 | refine Bb4 ?_ GE294.out | refine Bb4 ?_ GE295.out) | exact HB.out)) hb)
                have n6_ := am (hbox)
                have n7_ := am ((by rw [hg]; exact (Bb5 (by repeat (first | (with_reducible first | exact HB.out | apply Bb1 | apply Bb2 | apply Bb3 | refine Bb4 ?_ GE294.out | refine Bb4 ?_ GE295.out) | exact HB.out))) : w.heap.size ≤ gb310))
                have n8_ := am ((by rw [hg]; exact (Bb5 (by repeat (first | (with_reducible first | exact HB.out | apply Bb1 | apply Bb2 | apply Bb3 | refine Bb4 ?_ GE294.out | refine Bb4 ?_ GE295.out) | exact HB.out))) : w.heap.size ≤ gb310))
                have n9_ := am ((by rw [hg]; exact nl (Bk5 (g := gb294) (o := .cells #[.int .i64 ((rd_T35 l0 0).f0), .int .i64 ((rd_T35 l0 0).f1)] 35 (0, 0)) (by (with_reducible repeat (first | refine Bk2 ?_ _ | refine Bk3 ?_ | refine Bk1 ?_ _)); exact BK294.out)) : gb294 ≠ gb310))
                have n10_ := am ((by rw [hg]; exact ng (Bk5 (g := gb294) (o := .cells #[.int .i64 ((rd_T35 l0 0).f0), .int .i64 ((rd_T35 l0 0).f1)] 35 (0, 0)) (by (with_reducible repeat (first | refine Bk2 ?_ _ | refine Bk3 ?_ | refine Bk1 ?_ _)); exact BK294.out)) : gb310 ≠ gb294))
                have n11_ := am ((by rw [hg]; exact nl (Bk5 (g := gb295) (o := .cells #[.int .i64 (wrap64 (x296000_1 + ((rd_T35 y299 x6_1).f0))), .int .i64 (wrap64 (x296001_1 + ((rd_T35 y299 x6_1).f1)))] 35 (0, 0)) (by (with_reducible repeat (first | refine Bk2 ?_ _ | refine Bk3 ?_ | refine Bk1 ?_ _)); exact BK295.out)) : gb295 ≠ gb310))
                have n12_ := am ((by rw [hg]; exact ng (Bk5 (g := gb295) (o := .cells #[.int .i64 (wrap64 (x296000_1 + ((rd_T35 y299 x6_1).f0))), .int .i64 (wrap64 (x296001_1 + ((rd_T35 y299 x6_1).f1)))] 35 (0, 0)) (by (with_reducible repeat (first | refine Bk2 ?_ _ | refine Bk3 ?_ | refine Bk1 ?_ _)); exact BK295.out)) : gb310 ≠ gb295))
                clear HO298
                clear HO301
                clear HO306
                clear BK294
                clear BK295
                clear HB
                have HO298 := n0_
                have HO301 := n1_
                have HO306 := n2_
                have BK294 := n3_
                have BK295 := n4_
                have HB := n5_
                have BK310 := n6_
                have GW310 := n7_
                have GE310 := n8_
                have NB294_310 := n9_
                have NB310_294 := n10_
                have NB295_310 := n11_
                have NB310_295 := n12_
                clear n0_ n1_ n2_ n3_ n4_ n5_ n6_ n7_ n8_ n9_ n10_ n11_ n12_
                clear hb hbox hg
                refine hK.out _ _ ⟨HS0_, HS1_, HS2_, HS3_⟩ (fun hHeld => ?_)
                clear hK K
                refine norm_ (a' := ?_) ?_ ?_
                rotate_left
                ·show Act.put _ (some 10) _ = _
                 simp only [Act.put, sa, i64_w, i32_w]
                 rfl
                refine one_ (i := 10) (N := some 9) spec_l23Word.m27 rfl rfl (one_of HT_.out (by kernel_rfl)) (by decide) (fun K hK => ?_)
                refine box_step ?hg (N := 9) ?hd (cs := #[.int .i64 0, .int .i64 0]) (t := 35) ?hr ?_; (case hd => rfl); (case hg => rfl); (case hr => first | (go_simp; done) | (go_simp; rfl))
                intro gb309 hg w106 hbox hb
                have HS0_ := (hb.cell (World.block_lt_of_cell? _ _ (hHeld.1))).trans (hHeld.1)
                have HS1_ := (hb.cell (World.block_lt_of_cell? _ _ (hHeld.2.1))).trans (hHeld.2.1)
                have HS2_ := (hb.cell (World.block_lt_of_cell? _ _ (hHeld.2.2.1))).trans (hHeld.2.2.1)
                have HS3_ := (hb.cell (World.block_lt_of_cell? _ _ (hHeld.2.2.2))).trans (hHeld.2.2.2)
                have n0_ := am (Kd.R_below (by (with_reducible repeat (first | apply Kd.R_alloc | apply Kd.R_drewN | apply Kd.R_drew)); exact HO298.out) hb)
                have n1_ := am (Kd.R_below (Kd.R_elderB (by (with_reducible repeat (first | apply Kd.R_alloc | apply Kd.R_drewN | apply Kd.R_drew)); exact HO301.out) gb309 (Nat.le_of_eq hg.symm)) hb)
                have n2_ := am (Kd.R_below (Kd.R_elderB (by (with_reducible repeat (first | apply Kd.R_alloc | apply Kd.R_drewN | apply Kd.R_drew)); exact HO306.out) gb309 (Nat.le_of_eq hg.symm)) hb)
                have n3_ := am (Bk4 (g := gb294) (o := .cells #[.int .i64 ((rd_T35 l0 0).f0), .int .i64 ((rd_T35 l0 0).f1)] 35 (0, 0)) (by (with_reducible repeat (first | refine Bk2 ?_ _ | refine Bk3 ?_ | refine Bk1 ?_ _)); exact BK294.out) hb)
                have n4_ := am (Bk4 (g := gb295) (o := .cells #[.int .i64 (wrap64 (x296000_1 + ((rd_T35 y299 x6_1).f0))), .int .i64 (wrap64 (x296001_1 + ((rd_T35 y299 x6_1).f1)))] 35 (0, 0)) (by (with_reducible repeat (first | refine Bk2 ?_ _ | refine Bk3 ?_ | refine Bk1 ?_ _)); exact BK295.out) hb)
                have n5_ := am (Bk4 (g := gb310) (o := .cells #[.int .i64 0, .int .i64 0] 35 (0, 0)) (by (with_reducible repeat (first | refine Bk2 ?_ _ | refine Bk3 ?_ | refine Bk1 ?_ _)); exact BK310.out) hb)
                have n6_ := am (Bb6 (by repeat (first | (with_reducible first | exact HB.out | apply Bb1 | apply Bb2 | apply Bb3 | refine Bb4 ?_ GE294.out | refine Bb4 ?_ GE295.out | refine Bb4 ?_ GE310.out) | exact HB.out)) hb)
                have n7_ := am (hbox)
                have n8_ := am ((by rw [hg]; exact (Bb5 (by repeat (first | (with_reducible first | exact HB.out | apply Bb1 | apply Bb2 | apply Bb3 | refine Bb4 ?_ GE294.out | refine Bb4 ?_ GE295.out | refine Bb4 ?_ GE310.out) | exact HB.out))) : w.heap.size ≤ gb309))
                have n9_ := am ((by rw [hg]; exact (Bb5 (by repeat (first | (with_reducible first | exact HB.out | apply Bb1 | apply Bb2 | apply Bb3 | refine Bb4 ?_ GE294.out | refine Bb4 ?_ GE295.out | refine Bb4 ?_ GE310.out) | exact HB.out))) : w.heap.size ≤ gb309))
                have n10_ := am ((by rw [hg]; exact nl (Bk5 (g := gb294) (o := .cells #[.int .i64 ((rd_T35 l0 0).f0), .int .i64 ((rd_T35 l0 0).f1)] 35 (0, 0)) (by (with_reducible repeat (first | refine Bk2 ?_ _ | refine Bk3 ?_ | refine Bk1 ?_ _)); exact BK294.out)) : gb294 ≠ gb309))
                have n11_ := am ((by rw [hg]; exact ng (Bk5 (g := gb294) (o := .cells #[.int .i64 ((rd_T35 l0 0).f0), .int .i64 ((rd_T35 l0 0).f1)] 35 (0, 0)) (by (with_reducible repeat (first | refine Bk2 ?_ _ | refine Bk3 ?_ | refine Bk1 ?_ _)); exact BK294.out)) : gb309 ≠ gb294))
                have n12_ := am ((by rw [hg]; exact nl (Bk5 (g := gb295) (o := .cells #[.int .i64 (wrap64 (x296000_1 + ((rd_T35 y299 x6_1).f0))), .int .i64 (wrap64 (x296001_1 + ((rd_T35 y299 x6_1).f1)))] 35 (0, 0)) (by (with_reducible repeat (first | refine Bk2 ?_ _ | refine Bk3 ?_ | refine Bk1 ?_ _)); exact BK295.out)) : gb295 ≠ gb309))
                have n13_ := am ((by rw [hg]; exact ng (Bk5 (g := gb295) (o := .cells #[.int .i64 (wrap64 (x296000_1 + ((rd_T35 y299 x6_1).f0))), .int .i64 (wrap64 (x296001_1 + ((rd_T35 y299 x6_1).f1)))] 35 (0, 0)) (by (with_reducible repeat (first | refine Bk2 ?_ _ | refine Bk3 ?_ | refine Bk1 ?_ _)); exact BK295.out)) : gb309 ≠ gb295))
                have n14_ := am ((by rw [hg]; exact nl (Bk5 (g := gb310) (o := .cells #[.int .i64 0, .int .i64 0] 35 (0, 0)) (by (with_reducible repeat (first | refine Bk2 ?_ _ | refine Bk3 ?_ | refine Bk1 ?_ _)); exact BK310.out)) : gb310 ≠ gb309))
                have n15_ := am ((by rw [hg]; exact ng (Bk5 (g := gb310) (o := .cells #[.int .i64 0, .int .i64 0] 35 (0, 0)) (by (with_reducible repeat (first | refine Bk2 ?_ _ | refine Bk3 ?_ | refine Bk1 ?_ _)); exact BK310.out)) : gb309 ≠ gb310))
                clear HO298
                clear HO301
                clear HO306
                clear BK294
                clear BK295
                clear BK310
                clear HB
                have HO298 := n0_
                have HO301 := n1_
                have HO306 := n2_
                have BK294 := n3_
                have BK295 := n4_
                have BK310 := n5_
                have HB := n6_
                have BK309 := n7_
                have GW309 := n8_
                have GE309 := n9_
                have NB294_309 := n10_
                have NB309_294 := n11_
                have NB295_309 := n12_
                have NB309_295 := n13_
                have NB310_309 := n14_
                have NB309_310 := n15_
                clear n0_ n1_ n2_ n3_ n4_ n5_ n6_ n7_ n8_ n9_ n10_ n11_ n12_ n13_ n14_ n15_
                clear hb hbox hg
                refine hK.out _ _ ⟨HS0_, HS1_, HS2_, HS3_⟩ (fun hHeld => ?_)
                clear hK K
                refine norm_ (a' := ?_) ?_ ?_
                rotate_left
                ·show Act.put _ (some 9) _ = _
                 simp only [Act.put, sa, i64_w, i32_w]
                 rfl
                exact norm_ (by simp only [putAll, Act.put, sa]) (hCont (gb309, gb310) _ ⟨hHeld, (by (with_reducible repeat (first | apply Kd.R_alloc | apply Kd.R_drewN | apply Kd.R_drew)); exact HO298.out), (by (with_reducible repeat (first | apply Kd.R_alloc | apply Kd.R_drewN | apply Kd.R_drew)); exact Kd.R_mono HO301.out (fun _ hk => ⟨hk.1.1.2, ⟨hk.1.1.1.1.2, ⟨hk.1.1.1.2, ⟨hk.2, hk.1.2⟩⟩⟩⟩)), (by (with_reducible repeat (first | apply Kd.R_alloc | apply Kd.R_drewN | apply Kd.R_drew)); exact Kd.R_mono HO306.out (fun _ hk => ⟨hk.1.1.1.1.2, ⟨hk.1.1.1.2, ⟨hk.1.1.2, ⟨hk.2, hk.1.2⟩⟩⟩⟩)), (by (with_reducible repeat (first | refine Bk2 ?_ _ | refine Bk3 ?_ | refine Bk1 ?_ _)); exact BK294.out), (by (with_reducible repeat (first | refine Bk2 ?_ _ | refine Bk3 ?_ | refine Bk1 ?_ _)); exact BK295.out), (by (with_reducible repeat (first | refine Bk2 ?_ _ | refine Bk3 ?_ | refine Bk1 ?_ _)); exact BK309.out), (by (with_reducible repeat (first | refine Bk2 ?_ _ | refine Bk3 ?_ | refine Bk1 ?_ _)); exact BK310.out), GW309.out, GE309.out, NB294_309.out, NB309_294.out, NB295_309.out, NB309_295.out, NB310_309.out, NB309_310.out, GW310.out, GE310.out, NB294_310.out, NB310_294.out, NB295_310.out, NB310_295.out, (by repeat (first | (with_reducible first | exact HB.out | apply Bb1 | apply Bb2 | apply Bb3 | refine Bb4 ?_ GE294.out | refine Bb4 ?_ GE295.out | refine Bb4 ?_ GE310.out | refine Bb4 ?_ GE309.out) | exact HB.out))⟩)
              rintro ⟨gb309, gb310⟩ w107 ⟨hS_, h0_, h1_, h2_, h3_, h4_, h5_, h6_, h7_, h8_, h9_, h10_, h11_, h12_, h13_, h14_, h15_, h16_, h17_, h18_, h19_, h20_, h21_⟩
              have n0_ : Aside0 (Kd.R (Kd.int .u8) 5 w107 w.heap.size (fun _ => True) v297 y296) := ⟨h0_⟩
              have n1_ : Aside0 (Kd.R k35 35 w107 w.heap.size (fun k_ => some k_ ≠ (.slice (some ad307) y304.length co104 : Value).ownBlock ∧ k_ ≠ gb294 ∧ k_ ≠ gb295 ∧ k_ ≠ gb309 ∧ k_ ≠ gb310) (.slice (some ad302) y299.length co95) y299) := ⟨h1_⟩
              have n2_ : Aside0 (Kd.R k35 35 w107 w.heap.size (fun k_ => some k_ ≠ (.slice (some ad302) y299.length co95 : Value).ownBlock ∧ k_ ≠ gb294 ∧ k_ ≠ gb295 ∧ k_ ≠ gb309 ∧ k_ ≠ gb310) (.slice (some ad307) y304.length co104) y304) := ⟨h2_⟩
              have n3_ : Aside0 (w107.heap[gb294]? = some (.cells #[.int .i64 ((rd_T35 l0 0).f0), .int .i64 ((rd_T35 l0 0).f1)] 35 (0, 0))) := ⟨h3_⟩
              have n4_ : Aside0 (w107.heap[gb295]? = some (.cells #[.int .i64 (wrap64 (x296000_1 + ((rd_T35 y299 x6_1).f0))), .int .i64 (wrap64 (x296001_1 + ((rd_T35 y299 x6_1).f1)))] 35 (0, 0))) := ⟨h4_⟩
              have n5_ : Aside0 (w107.heap[gb309]? = some (.cells #[.int .i64 0, .int .i64 0] 35 (0, 0))) := ⟨h5_⟩
              have n6_ : Aside0 (w107.heap[gb310]? = some (.cells #[.int .i64 0, .int .i64 0] 35 (0, 0))) := ⟨h6_⟩
              have n7_ : Aside0 (w.heap.size ≤ gb309) := ⟨h7_⟩
              have n8_ : Aside0 (w.heap.size ≤ gb309) := ⟨h8_⟩
              have n9_ : Aside0 (gb294 ≠ gb309) := ⟨h9_⟩
              have n10_ : Aside0 (gb309 ≠ gb294) := ⟨h10_⟩
              have n11_ : Aside0 (gb295 ≠ gb309) := ⟨h11_⟩
              have n12_ : Aside0 (gb309 ≠ gb295) := ⟨h12_⟩
              have n13_ : Aside0 (gb310 ≠ gb309) := ⟨h13_⟩
              have n14_ : Aside0 (gb309 ≠ gb310) := ⟨h14_⟩
              have n15_ : Aside0 (w.heap.size ≤ gb310) := ⟨h15_⟩
              have n16_ : Aside0 (w.heap.size ≤ gb310) := ⟨h16_⟩
              have n17_ : Aside0 (gb294 ≠ gb310) := ⟨h17_⟩
              have n18_ : Aside0 (gb310 ≠ gb294) := ⟨h18_⟩
              have n19_ : Aside0 (gb295 ≠ gb310) := ⟨h19_⟩
              have n20_ : Aside0 (gb310 ≠ gb295) := ⟨h20_⟩
              have n21_ : Aside0 (Below w.heap.size w w107) := ⟨h21_⟩
              clear HO298
              clear HO301
              clear HO306
              clear BK294
              clear BK295
              clear HB
              clear h0_ h1_ h2_ h3_ h4_ h5_ h6_ h7_ h8_ h9_ h10_ h11_ h12_ h13_ h14_ h15_ h16_ h17_ h18_ h19_ h20_ h21_
              have HO298 := n0_
              have HO301 := n1_
              have HO306 := n2_
              have BK294 := n3_
              have BK295 := n4_
              have BK309 := n5_
              have BK310 := n6_
              have GW309 := n7_
              have GE309 := n8_
              have NB294_309 := n9_
              have NB309_294 := n10_
              have NB295_309 := n11_
              have NB309_295 := n12_
              have NB310_309 := n13_
              have NB309_310 := n14_
              have GW310 := n15_
              have GE310 := n16_
              have NB294_310 := n17_
              have NB310_294 := n18_
              have NB295_310 := n19_
              have NB310_295 := n20_
              have HB := n21_
              clear n0_ n1_ n2_ n3_ n4_ n5_ n6_ n7_ n8_ n9_ n10_ n11_ n12_ n13_ n14_ n15_ n16_ n17_ n18_ n19_ n20_ n21_
              have hHeld : w107.cell? (ad307.add ((x6_1).toNat * 2)) = some (.int .i64 ((rd_T35 y304 x6_1).f0)) ∧ w107.cell? ⟨(ad307.add ((x6_1).toNat * 2)).block, (ad307.add ((x6_1).toNat * 2)).off + 1, none⟩ = some (.int .i64 ((rd_T35 y304 x6_1).f1)) ∧ w107.cell? (ad307.add (((ji28)).toNat * 2)) = some (.int .i64 ((rd_T35 y304 (ji28)).f0)) ∧ w107.cell? ⟨(ad307.add (((ji28)).toNat * 2)).block, (ad307.add (((ji28)).toNat * 2)).off + 1, none⟩ = some (.int .i64 ((rd_T35 y304 (ji28)).f1)) := hS_
              refine norm_ (a' := ?_) ?_ ?_
              rotate_left
              ·simp only [putAll, Act.put, sa]
               rfl
              refine one_ (i := 12) (N := none) spec_l23Word.m28 rfl rfl (one_of HT_.out (by kernel_rfl)) (by decide) (fun K hK => ?_)
              have hs108 : w107.cell? ⟨gb309, 0, none⟩ = some (.int .i64 0) := (kc BK309.out 0).trans rfl
              have hfs108 := kf BK309.out 0
              have hns108_0 := NB294_309.out
              have hns108_1 := NB295_309.out
              have hns108_3 := NB310_309.out
              have hms108_0 := NB309_294.out
              have hms108_1 := NB309_295.out
              have hms108_3 := NB309_310.out
              have hs109 : w107.cell? ⟨gb309, 1, none⟩ = some (.int .i64 0) := (kc BK309.out 1).trans rfl
              have hfs109 := kf BK309.out 1
              have hns109_0 := NB294_309.out
              have hns109_1 := NB295_309.out
              have hns109_3 := NB310_309.out
              have hms109_0 := NB309_294.out
              have hms109_1 := NB309_295.out
              have hms109_3 := NB309_310.out
              refine skip_ (w1 := ?_) (by rfl) rfl ?_ ?_
              rotate_left
              ·go_simp
               rfl
              refine hK.out _ _ ⟨((cell_far (p := ⟨gb309, _, none⟩) (by first | exact Kd.own_blk (Kd.R_away HO306.out (fun _ hk => hk.2.2.2.1)) | (rw [add_block]; exact Kd.own_blk (Kd.R_away HO306.out (fun _ hk => hk.2.2.2.1))) | (show (Addr.add _ _).block ≠ _; rw [add_block]; exact Kd.own_blk (Kd.R_away HO306.out (fun _ hk => hk.2.2.2.1))) | (dsimp only; exact Kd.own_blk (Kd.R_away HO306.out (fun _ hk => hk.2.2.2.1)))) _).trans (((cell_far (p := ⟨gb309, _, none⟩) (by first | exact Kd.own_blk (Kd.R_away HO306.out (fun _ hk => hk.2.2.2.1)) | (rw [add_block]; exact Kd.own_blk (Kd.R_away HO306.out (fun _ hk => hk.2.2.2.1))) | (show (Addr.add _ _).block ≠ _; rw [add_block]; exact Kd.own_blk (Kd.R_away HO306.out (fun _ hk => hk.2.2.2.1))) | (dsimp only; exact Kd.own_blk (Kd.R_away HO306.out (fun _ hk => hk.2.2.2.1)))) _).trans (hHeld.1)))), ((cell_far (p := ⟨gb309, _, none⟩) (by first | exact Kd.own_blk (Kd.R_away HO306.out (fun _ hk => hk.2.2.2.1)) | (rw [add_block]; exact Kd.own_blk (Kd.R_away HO306.out (fun _ hk => hk.2.2.2.1))) | (show (Addr.add _ _).block ≠ _; rw [add_block]; exact Kd.own_blk (Kd.R_away HO306.out (fun _ hk => hk.2.2.2.1))) | (dsimp only; exact Kd.own_blk (Kd.R_away HO306.out (fun _ hk => hk.2.2.2.1)))) _).trans (((cell_far (p := ⟨gb309, _, none⟩) (by first | exact Kd.own_blk (Kd.R_away HO306.out (fun _ hk => hk.2.2.2.1)) | (rw [add_block]; exact Kd.own_blk (Kd.R_away HO306.out (fun _ hk => hk.2.2.2.1))) | (show (Addr.add _ _).block ≠ _; rw [add_block]; exact Kd.own_blk (Kd.R_away HO306.out (fun _ hk => hk.2.2.2.1))) | (dsimp only; exact Kd.own_blk (Kd.R_away HO306.out (fun _ hk => hk.2.2.2.1)))) _).trans (hHeld.2.1)))), ((cell_far (p := ⟨gb309, _, none⟩) (by first | exact Kd.own_blk (Kd.R_away HO306.out (fun _ hk => hk.2.2.2.1)) | (rw [add_block]; exact Kd.own_blk (Kd.R_away HO306.out (fun _ hk => hk.2.2.2.1))) | (show (Addr.add _ _).block ≠ _; rw [add_block]; exact Kd.own_blk (Kd.R_away HO306.out (fun _ hk => hk.2.2.2.1))) | (dsimp only; exact Kd.own_blk (Kd.R_away HO306.out (fun _ hk => hk.2.2.2.1)))) _).trans (((cell_far (p := ⟨gb309, _, none⟩) (by first | exact Kd.own_blk (Kd.R_away HO306.out (fun _ hk => hk.2.2.2.1)) | (rw [add_block]; exact Kd.own_blk (Kd.R_away HO306.out (fun _ hk => hk.2.2.2.1))) | (show (Addr.add _ _).block ≠ _; rw [add_block]; exact Kd.own_blk (Kd.R_away HO306.out (fun _ hk => hk.2.2.2.1))) | (dsimp only; exact Kd.own_blk (Kd.R_away HO306.out (fun _ hk => hk.2.2.2.1)))) _).trans (hHeld.2.2.1)))), ((cell_far (p := ⟨gb309, _, none⟩) (by first | exact Kd.own_blk (Kd.R_away HO306.out (fun _ hk => hk.2.2.2.1)) | (rw [add_block]; exact Kd.own_blk (Kd.R_away HO306.out (fun _ hk => hk.2.2.2.1))) | (show (Addr.add _ _).block ≠ _; rw [add_block]; exact Kd.own_blk (Kd.R_away HO306.out (fun _ hk => hk.2.2.2.1))) | (dsimp only; exact Kd.own_blk (Kd.R_away HO306.out (fun _ hk => hk.2.2.2.1)))) _).trans (((cell_far (p := ⟨gb309, _, none⟩) (by first | exact Kd.own_blk (Kd.R_away HO306.out (fun _ hk => hk.2.2.2.1)) | (rw [add_block]; exact Kd.own_blk (Kd.R_away HO306.out (fun _ hk => hk.2.2.2.1))) | (show (Addr.add _ _).block ≠ _; rw [add_block]; exact Kd.own_blk (Kd.R_away HO306.out (fun _ hk => hk.2.2.2.1))) | (dsimp only; exact Kd.own_blk (Kd.R_away HO306.out (fun _ hk => hk.2.2.2.1)))) _).trans (hHeld.2.2.2))))⟩ (fun hHeld => ?_)
              clear hK K
              refine one_ (i := 13) (N := none) spec_l23Word.m34 rfl rfl (one_of HT_.out (by kernel_rfl)) (by decide) (fun K hK => ?_)
              have hs110 : w107.cell? ⟨gb310, 0, none⟩ = some (.int .i64 0) := (kc BK310.out 0).trans rfl
              have hfs110 := kf BK310.out 0
              have hns110_0 := NB294_310.out
              have hns110_1 := NB295_310.out
              have hns110_2 := NB309_310.out
              have hms110_0 := NB310_294.out
              have hms110_1 := NB310_295.out
              have hms110_2 := NB310_309.out
              have hs111 : w107.cell? ⟨gb310, 1, none⟩ = some (.int .i64 0) := (kc BK310.out 1).trans rfl
              have hfs111 := kf BK310.out 1
              have hns111_0 := NB294_310.out
              have hns111_1 := NB295_310.out
              have hns111_2 := NB309_310.out
              have hms111_0 := NB310_294.out
              have hms111_1 := NB310_295.out
              have hms111_2 := NB310_309.out
              refine skip_ (w1 := ?_) (by rfl) rfl ?_ ?_
              rotate_left
              ·go_simp
               rfl
              refine hK.out _ _ ⟨((cell_far (p := ⟨gb310, _, none⟩) (by first | exact Kd.own_blk (Kd.R_away HO306.out (fun _ hk => hk.2.2.2.2)) | (rw [add_block]; exact Kd.own_blk (Kd.R_away HO306.out (fun _ hk => hk.2.2.2.2))) | (show (Addr.add _ _).block ≠ _; rw [add_block]; exact Kd.own_blk (Kd.R_away HO306.out (fun _ hk => hk.2.2.2.2))) | (dsimp only; exact Kd.own_blk (Kd.R_away HO306.out (fun _ hk => hk.2.2.2.2)))) _).trans (((cell_far (p := ⟨gb310, _, none⟩) (by first | exact Kd.own_blk (Kd.R_away HO306.out (fun _ hk => hk.2.2.2.2)) | (rw [add_block]; exact Kd.own_blk (Kd.R_away HO306.out (fun _ hk => hk.2.2.2.2))) | (show (Addr.add _ _).block ≠ _; rw [add_block]; exact Kd.own_blk (Kd.R_away HO306.out (fun _ hk => hk.2.2.2.2))) | (dsimp only; exact Kd.own_blk (Kd.R_away HO306.out (fun _ hk => hk.2.2.2.2)))) _).trans (hHeld.1)))), ((cell_far (p := ⟨gb310, _, none⟩) (by first | exact Kd.own_blk (Kd.R_away HO306.out (fun _ hk => hk.2.2.2.2)) | (rw [add_block]; exact Kd.own_blk (Kd.R_away HO306.out (fun _ hk => hk.2.2.2.2))) | (show (Addr.add _ _).block ≠ _; rw [add_block]; exact Kd.own_blk (Kd.R_away HO306.out (fun _ hk => hk.2.2.2.2))) | (dsimp only; exact Kd.own_blk (Kd.R_away HO306.out (fun _ hk => hk.2.2.2.2)))) _).trans (((cell_far (p := ⟨gb310, _, none⟩) (by first | exact Kd.own_blk (Kd.R_away HO306.out (fun _ hk => hk.2.2.2.2)) | (rw [add_block]; exact Kd.own_blk (Kd.R_away HO306.out (fun _ hk => hk.2.2.2.2))) | (show (Addr.add _ _).block ≠ _; rw [add_block]; exact Kd.own_blk (Kd.R_away HO306.out (fun _ hk => hk.2.2.2.2))) | (dsimp only; exact Kd.own_blk (Kd.R_away HO306.out (fun _ hk => hk.2.2.2.2)))) _).trans (hHeld.2.1)))), ((cell_far (p := ⟨gb310, _, none⟩) (by first | exact Kd.own_blk (Kd.R_away HO306.out (fun _ hk => hk.2.2.2.2)) | (rw [add_block]; exact Kd.own_blk (Kd.R_away HO306.out (fun _ hk => hk.2.2.2.2))) | (show (Addr.add _ _).block ≠ _; rw [add_block]; exact Kd.own_blk (Kd.R_away HO306.out (fun _ hk => hk.2.2.2.2))) | (dsimp only; exact Kd.own_blk (Kd.R_away HO306.out (fun _ hk => hk.2.2.2.2)))) _).trans (((cell_far (p := ⟨gb310, _, none⟩) (by first | exact Kd.own_blk (Kd.R_away HO306.out (fun _ hk => hk.2.2.2.2)) | (rw [add_block]; exact Kd.own_blk (Kd.R_away HO306.out (fun _ hk => hk.2.2.2.2))) | (show (Addr.add _ _).block ≠ _; rw [add_block]; exact Kd.own_blk (Kd.R_away HO306.out (fun _ hk => hk.2.2.2.2))) | (dsimp only; exact Kd.own_blk (Kd.R_away HO306.out (fun _ hk => hk.2.2.2.2)))) _).trans (hHeld.2.2.1)))), ((cell_far (p := ⟨gb310, _, none⟩) (by first | exact Kd.own_blk (Kd.R_away HO306.out (fun _ hk => hk.2.2.2.2)) | (rw [add_block]; exact Kd.own_blk (Kd.R_away HO306.out (fun _ hk => hk.2.2.2.2))) | (show (Addr.add _ _).block ≠ _; rw [add_block]; exact Kd.own_blk (Kd.R_away HO306.out (fun _ hk => hk.2.2.2.2))) | (dsimp only; exact Kd.own_blk (Kd.R_away HO306.out (fun _ hk => hk.2.2.2.2)))) _).trans (((cell_far (p := ⟨gb310, _, none⟩) (by first | exact Kd.own_blk (Kd.R_away HO306.out (fun _ hk => hk.2.2.2.2)) | (rw [add_block]; exact Kd.own_blk (Kd.R_away HO306.out (fun _ hk => hk.2.2.2.2))) | (show (Addr.add _ _).block ≠ _; rw [add_block]; exact Kd.own_blk (Kd.R_away HO306.out (fun _ hk => hk.2.2.2.2))) | (dsimp only; exact Kd.own_blk (Kd.R_away HO306.out (fun _ hk => hk.2.2.2.2)))) _).trans (hHeld.2.2.2))))⟩ (fun hHeld => ?_)
              clear hK K
              refine done_ (done_of HT_.out (by kernel_rfl)) ?_
              have hnb112 := NB309_294.out
              have hnc112 := NB294_309.out
              have hnb113 := NB309_295.out
              have hnc113 := NB295_309.out
              have hnb114 := NB309_310.out
              have hnc114 := NB310_309.out
              have hcz115_0 : w107.cell? ⟨gb309, 0, none⟩ = some (.int .i64 0) := (kc BK309.out 0).trans rfl
              have hcz115_1 : w107.cell? ⟨gb309, 1, none⟩ = some (.int .i64 0) := (kc BK309.out 1).trans rfl
              have hfz115_0 := kf BK309.out 0
              have hfz115_1 := kf BK309.out 1
              try go_wp2_with (first | ((with_reducible refine gate_callee (f := 27) rfl ?_); refine goesL_ (some 82) rfl rfl Try.func27 (by kernel_rfl) rfl #[.slice (some ad293) l0.length c0, .agg #[.int .i64 ((rd_T35 y304 x6_1).f0), .int .i64 ((rd_T35 y304 x6_1).f1)]] rfl (by (try simp only [List.map_toArray, List.map_cons, List.map_nil]); first | done | rfl | (simp only [List.length_drop, List.length_take]; rfl)) ?_; (with_reducible refine (spec_l02Index.calls k1 _ _ l0 ((rd_T35 y304 x6_1).f0) ((rd_T35 y304 x6_1).f1) t311 _ ?side1 ?side2 A31.out).mono ?_); (case side1 => exact Kd.C_below HR0.out (by repeat (first | (with_reducible first | exact HB.out | apply Bb1 | apply Bb2 | apply Bb3 | refine Bb4 ?_ GE294.out | refine Bb4 ?_ GE295.out | refine Bb4 ?_ GE309.out | refine Bb4 ?_ GE310.out) | exact HB.out))); (case side2 => exact HC0.out); rintro e w116 ⟨rfl, hb⟩; refine ⟨_, rfl, ?_⟩; have n0_ := am (Kd.R_below (by (with_reducible repeat (first | apply Kd.R_alloc | apply Kd.R_drewN | apply Kd.R_drew)); exact (Kd.R_mono (Kd.R_mono (Kd.R_far (p := ⟨gb310, 1, none⟩) (Kd.R_far (p := ⟨gb310, 0, none⟩) (Kd.R_far (p := ⟨gb309, 1, none⟩) (Kd.R_far (p := ⟨gb309, 0, none⟩) (Kd.R_types (Kd.R_types HO298.out BK309.out (by decide)) BK310.out (by decide)) (fun _ hk => hk.1.2) (.int .i64 ((rd_T35 y304 x6_1).f0))) (fun _ hk => hk.1.2) (.int .i64 ((rd_T35 y304 x6_1).f1))) (fun _ hk => hk.2) (.int .i64 ((rd_T35 y304 (ji28)).f0))) (fun _ hk => hk.2) (.int .i64 ((rd_T35 y304 (ji28)).f1))) (fun _ h_ => h_.1)) (fun _ h_ => h_.1))) hb); have n1_ := am (Kd.R_below (by (with_reducible repeat (first | apply Kd.R_alloc | apply Kd.R_drewN | apply Kd.R_drew)); exact (Kd.R_mono (Kd.R_mono (Kd.R_far (p := ⟨gb310, 1, none⟩) (Kd.R_far (p := ⟨gb310, 0, none⟩) (Kd.R_far (p := ⟨gb309, 1, none⟩) (Kd.R_far (p := ⟨gb309, 0, none⟩) (Kd.R_mono (Kd.R_mono HO301.out (fun k_ hk => (⟨hk, hk.2.2.2.1⟩ : _ ∧ k_ ≠ gb309))) (fun k_ hk => (⟨hk, hk.1.2.2.2.2⟩ : _ ∧ k_ ≠ gb310))) (fun _ hk => hk.1.2) (.int .i64 ((rd_T35 y304 x6_1).f0))) (fun _ hk => hk.1.2) (.int .i64 ((rd_T35 y304 x6_1).f1))) (fun _ hk => hk.2) (.int .i64 ((rd_T35 y304 (ji28)).f0))) (fun _ hk => hk.2) (.int .i64 ((rd_T35 y304 (ji28)).f1))) (fun _ h_ => h_.1)) (fun _ h_ => h_.1))) hb); have n2_ := am (Kd.R_below (by (with_reducible repeat (first | apply Kd.R_alloc | apply Kd.R_drewN | apply Kd.R_drew)); exact (Kd.R_mono (Kd.R_mono (Kd.R_far (p := ⟨gb310, 1, none⟩) (Kd.R_far (p := ⟨gb310, 0, none⟩) (Kd.R_far (p := ⟨gb309, 1, none⟩) (Kd.R_far (p := ⟨gb309, 0, none⟩) (Kd.R_mono (Kd.R_mono HO306.out (fun k_ hk => (⟨hk, hk.2.2.2.1⟩ : _ ∧ k_ ≠ gb309))) (fun k_ hk => (⟨hk, hk.1.2.2.2.2⟩ : _ ∧ k_ ≠ gb310))) (fun _ hk => hk.1.2) (.int .i64 ((rd_T35 y304 x6_1).f0))) (fun _ hk => hk.1.2) (.int .i64 ((rd_T35 y304 x6_1).f1))) (fun _ hk => hk.2) (.int .i64 ((rd_T35 y304 (ji28)).f0))) (fun _ hk => hk.2) (.int .i64 ((rd_T35 y304 (ji28)).f1))) (fun _ h_ => h_.1)) (fun _ h_ => h_.1))) hb); have n3_ := am (Bk4 (g := gb294) (o := .cells #[.int .i64 ((rd_T35 l0 0).f0), .int .i64 ((rd_T35 l0 0).f1)] 35 (0, 0)) (by (with_reducible repeat (first | refine Bk2 ?_ _ | refine Bk3 ?_ | refine Bk1 ?_ _)); refine blk_far ?_ NB294_310.out _; (with_reducible repeat (first | refine Bk2 ?_ _ | refine Bk3 ?_ | refine Bk1 ?_ _)); refine blk_far ?_ NB294_310.out _; (with_reducible repeat (first | refine Bk2 ?_ _ | refine Bk3 ?_ | refine Bk1 ?_ _)); refine blk_far ?_ NB294_309.out _; (with_reducible repeat (first | refine Bk2 ?_ _ | refine Bk3 ?_ | refine Bk1 ?_ _)); refine blk_far ?_ NB294_309.out _; (with_reducible repeat (first | refine Bk2 ?_ _ | refine Bk3 ?_ | refine Bk1 ?_ _)); exact BK294.out) hb); have n4_ := am (Bk4 (g := gb295) (o := .cells #[.int .i64 (wrap64 (x296000_1 + ((rd_T35 y299 x6_1).f0))), .int .i64 (wrap64 (x296001_1 + ((rd_T35 y299 x6_1).f1)))] 35 (0, 0)) (by (with_reducible repeat (first | refine Bk2 ?_ _ | refine Bk3 ?_ | refine Bk1 ?_ _)); refine blk_far ?_ NB295_310.out _; (with_reducible repeat (first | refine Bk2 ?_ _ | refine Bk3 ?_ | refine Bk1 ?_ _)); refine blk_far ?_ NB295_310.out _; (with_reducible repeat (first | refine Bk2 ?_ _ | refine Bk3 ?_ | refine Bk1 ?_ _)); refine blk_far ?_ NB295_309.out _; (with_reducible repeat (first | refine Bk2 ?_ _ | refine Bk3 ?_ | refine Bk1 ?_ _)); refine blk_far ?_ NB295_309.out _; (with_reducible repeat (first | refine Bk2 ?_ _ | refine Bk3 ?_ | refine Bk1 ?_ _)); exact BK295.out) hb); have n5_ := am (Bk4 (g := gb309) (o := .cells #[.int .i64 ((rd_T35 y304 x6_1).f0), .int .i64 ((rd_T35 y304 x6_1).f1)] 35 (0, 0)) (by (with_reducible repeat (first | refine Bk2 ?_ _ | refine Bk3 ?_ | refine Bk1 ?_ _)); refine blk_far ?_ NB309_310.out _; (with_reducible repeat (first | refine Bk2 ?_ _ | refine Bk3 ?_ | refine Bk1 ?_ _)); refine blk_far ?_ NB309_310.out _; (with_reducible repeat (first | refine Bk2 ?_ _ | refine Bk3 ?_ | refine Bk1 ?_ _)); refine blk_put (cs := #[.int .i64 ((rd_T35 y304 x6_1).f0), .int .i64 0]) ?_ 1 _ rfl; (with_reducible repeat (first | refine Bk2 ?_ _ | refine Bk3 ?_ | refine Bk1 ?_ _)); refine blk_put (cs := #[.int .i64 0, .int .i64 0]) ?_ 0 _ rfl; (with_reducible repeat (first | refine Bk2 ?_ _ | refine Bk3 ?_ | refine Bk1 ?_ _)); exact BK309.out) hb); have n6_ := am (Bk4 (g := gb310) (o := .cells #[.int .i64 ((rd_T35 y304 (ji28)).f0), .int .i64 ((rd_T35 y304 (ji28)).f1)] 35 (0, 0)) (by (with_reducible repeat (first | refine Bk2 ?_ _ | refine Bk3 ?_ | refine Bk1 ?_ _)); refine blk_put (cs := #[.int .i64 ((rd_T35 y304 (ji28)).f0), .int .i64 0]) ?_ 1 _ rfl; (with_reducible repeat (first | refine Bk2 ?_ _ | refine Bk3 ?_ | refine Bk1 ?_ _)); refine blk_put (cs := #[.int .i64 0, .int .i64 0]) ?_ 0 _ rfl; (with_reducible repeat (first | refine Bk2 ?_ _ | refine Bk3 ?_ | refine Bk1 ?_ _)); refine blk_far ?_ NB310_309.out _; (with_reducible repeat (first | refine Bk2 ?_ _ | refine Bk3 ?_ | refine Bk1 ?_ _)); refine blk_far ?_ NB310_309.out _; (with_reducible repeat (first | refine Bk2 ?_ _ | refine Bk3 ?_ | refine Bk1 ?_ _)); exact BK310.out) hb); have n7_ := am (Bb6 (by repeat (first | (with_reducible first | exact HB.out | apply Bb1 | apply Bb2 | apply Bb3 | refine Bb4 ?_ GE294.out | refine Bb4 ?_ GE295.out | refine Bb4 ?_ GE309.out | refine Bb4 ?_ GE310.out) | exact HB.out)) hb); clear HO298; clear HO301; clear HO306; clear BK294; clear BK295; clear BK309; clear BK310; clear HB; have HO298 := n0_; have HO301 := n1_; have HO306 := n2_; have BK294 := n3_; have BK295 := n4_; have BK309 := n5_; have BK310 := n6_; have HB := n7_; clear n0_ n1_ n2_ n3_ n4_ n5_ n6_ n7_; (try clear hb); (try clear hb2); (try clear hk); (try clear hi); have hnb117 := NB310_294.out; have hnc117 := NB294_310.out; have hnb118 := NB310_295.out; have hnc118 := NB295_310.out; have hcz119_0 : w116.cell? ⟨gb310, 0, none⟩ = some (.int .i64 ((rd_T35 y304 (ji28)).f0)) := (kc BK310.out 0).trans rfl; have hcz119_1 : w116.cell? ⟨gb310, 1, none⟩ = some (.int .i64 ((rd_T35 y304 (ji28)).f1)) := (kc BK310.out 1).trans rfl; have hfz119_0 := kf BK310.out 0; have hfz119_1 := kf BK310.out 1) | ((with_reducible refine gate_callee (f := 27) rfl ?_); refine goesL_ (some 90) rfl rfl Try.func27 (by kernel_rfl) rfl #[.slice (some ad293) l0.length c0, .agg #[.int .i64 ((rd_T35 y304 (ji28)).f0), .int .i64 ((rd_T35 y304 (ji28)).f1)]] rfl (by (try simp only [List.map_toArray, List.map_cons, List.map_nil]); first | done | (simp only [hji28]; rfl) | rfl | (simp only [List.length_drop, List.length_take]; rfl)) ?_; (with_reducible refine (spec_l02Index.calls k1 _ _ l0 ((rd_T35 y304 (ji28)).f0) ((rd_T35 y304 (ji28)).f1) t312 _ ?side1 ?side2 A59.out).mono ?_); (case side1 => repeat (first | exact (Kd.C_below HR0.out HB.out) | (with_reducible refine Kd.C_alloc ?_ _) | (with_reducible refine Kd.C_drewN ?_ _) | (with_reducible refine Kd.C_drew ?_))); (case side2 => exact HC0.out); rintro e w120 ⟨rfl, hb⟩; refine ⟨_, rfl, ?_⟩; have n0_ := am (Kd.R_below (by (with_reducible repeat (first | apply Kd.R_alloc | apply Kd.R_drewN | apply Kd.R_drew)); exact HO298.out) hb); have n1_ := am (Kd.R_below (by (with_reducible repeat (first | apply Kd.R_alloc | apply Kd.R_drewN | apply Kd.R_drew)); exact HO301.out) hb); have n2_ := am (Kd.R_below (by (with_reducible repeat (first | apply Kd.R_alloc | apply Kd.R_drewN | apply Kd.R_drew)); exact HO306.out) hb); have n3_ := am (Bk4 (g := gb294) (o := .cells #[.int .i64 ((rd_T35 l0 0).f0), .int .i64 ((rd_T35 l0 0).f1)] 35 (0, 0)) (by (with_reducible repeat (first | refine Bk2 ?_ _ | refine Bk3 ?_ | refine Bk1 ?_ _)); exact BK294.out) hb); have n4_ := am (Bk4 (g := gb295) (o := .cells #[.int .i64 (wrap64 (x296000_1 + ((rd_T35 y299 x6_1).f0))), .int .i64 (wrap64 (x296001_1 + ((rd_T35 y299 x6_1).f1)))] 35 (0, 0)) (by (with_reducible repeat (first | refine Bk2 ?_ _ | refine Bk3 ?_ | refine Bk1 ?_ _)); exact BK295.out) hb); have n5_ := am (Bk4 (g := gb309) (o := .cells #[.int .i64 ((rd_T35 y304 x6_1).f0), .int .i64 ((rd_T35 y304 x6_1).f1)] 35 (0, 0)) (by (with_reducible repeat (first | refine Bk2 ?_ _ | refine Bk3 ?_ | refine Bk1 ?_ _)); exact BK309.out) hb); have n6_ := am (Bk4 (g := gb310) (o := .cells #[.int .i64 ((rd_T35 y304 (ji28)).f0), .int .i64 ((rd_T35 y304 (ji28)).f1)] 35 (0, 0)) (by (with_reducible repeat (first | refine Bk2 ?_ _ | refine Bk3 ?_ | refine Bk1 ?_ _)); exact BK310.out) hb); have n7_ := am (Bb6 (by repeat (first | (with_reducible first | exact HB.out | apply Bb1 | apply Bb2 | apply Bb3 | refine Bb4 ?_ GE294.out | refine Bb4 ?_ GE295.out | refine Bb4 ?_ GE309.out | refine Bb4 ?_ GE310.out) | exact HB.out)) hb); clear HO298; clear HO301; clear HO306; clear BK294; clear BK295; clear BK309; clear BK310; clear HB; have HO298 := n0_; have HO301 := n1_; have HO306 := n2_; have BK294 := n3_; have BK295 := n4_; have BK309 := n5_; have BK310 := n6_; have HB := n7_; clear n0_ n1_ n2_ n3_ n4_ n5_ n6_ n7_; (try clear hb); (try clear hb2); (try clear hk); (try clear hi)))
              go_roundg k1
              case measure => have := HK1.out; omega
              case rel => exact ⟨(y296), (x6_1), (wrap64 (x296000_1 + ((rd_T35 y299 x6_1).f0))), (wrap64 (x296001_1 + ((rd_T35 y299 x6_1).f1))), (by first | rfl | (simp; done) | (simp [*]; done)), H', ⟨by have := HK1.out; omega⟩, ⟨by (with_reducible repeat (first | apply Kd.R_alloc | apply Kd.R_drewN | apply Kd.R_drew)); exact HO298.out⟩, ⟨by (with_reducible repeat (first | refine Bk2 ?_ _ | refine Bk3 ?_ | refine Bk1 ?_ _)); exact BK294.out⟩, ⟨by (with_reducible repeat (first | refine Bk2 ?_ _ | refine Bk3 ?_ | refine Bk1 ?_ _)); exact BK295.out⟩, ⟨by repeat (first | (with_reducible first | exact HB.out | apply Bb1 | apply Bb2 | apply Bb3 | refine Bb4 ?_ GE294.out | refine Bb4 ?_ GE295.out | refine Bb4 ?_ GE309.out | refine Bb4 ?_ GE310.out) | exact HB.out)⟩⟩
           ·rw [if_neg c30] at H
            exact absurd H (by simp)
          ·rw [if_neg c29] at H
           exact absurd H (by simp)
         ·rw [if_neg c27] at H
          exact absurd H (by simp)
       ·rw [if_neg c14] at H
        exact absurd H (by simp)
      ·rw [if_neg c13] at H
       exact absurd H (by simp)
     ·rw [if_neg c11] at H
      exact absurd H (by simp)
    ·rw [if_neg c10] at H
     exact absurd H (by simp)
 ·rw [if_neg c2] at H
  exact absurd H (by simp)

end Go.Proofs.Ytgfpmgmelhbkoaa.Q
