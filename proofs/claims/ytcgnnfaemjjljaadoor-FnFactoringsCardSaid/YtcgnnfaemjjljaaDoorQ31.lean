/- Written by a program of this session (wip/tools/pp.py) out of the translation, with the kit's printer. -/
import Derived.Test.YtcgnnfaemjjljaaDoorQ0
import Derived.Test.YtcgnnfaemjjljaaDoorQ20
import Derived.Test.YtcgnnfaemjjljaaDoorQ1
namespace Go.Proofs.YtcgnnfaemjjljaaDoor.Q
open Go.RowKit Go.Proofs.YtcgnnfaemjjljaaDoorW.PrintWords Go.Proofs.YtcgnnfaemjjljaaDoorW.PrintLast Go.Proofs.YtcgnnfaemjjljaaDoorW.PrintMore
attribute [local go_sem] max2_int min2_int max_two min_two max_three min_three max_four min_four
set_option linter.unusedVariables false
set_option linter.unusedSimpArgs false

attribute [local go_sem high] eqA42
/-! ### spec_l23Word: function 51 -/
abbrev spec_l23Word.m0 : Array Bool := #[z',z',z',z',z',z',z',z',z',z',z',z',z',z',z',z',z',z']
abbrev spec_l23Word.m1 : Array Bool := #[z',z',z',z',z',z',z',z',z',z',z',z',z',z']
abbrev spec_l23Word.m2 : Array Bool := #[o',z',z',z',z',z',z',z',z',z',z',z',z',z',z',z',z',z']
abbrev spec_l23Word.m3 : Array Bool := #[o',z',z',z',z',z',z',z',z',z',z',z',z',z']
abbrev spec_l23Word.m4 : Array Bool := #[o',z',o',z',z',z',z',z',z',z',z',z',z',z',z',z',z',z']
abbrev spec_l23Word.m5 : Array Bool := #[o',z',o',o',z',z',z',z',z',z',z',z',z',z',z',z',z',z']
abbrev spec_l23Word.m6 : Array Bool := #[o',z',o',o',o',z',z',z',z',z',z',z',z',z',z',z',z',z']
abbrev spec_l23Word.m7 : Array Bool := #[o',z',o',o',o',o',z',z',z',z',z',z',z',z',z',z',z',z']
abbrev spec_l23Word.m8 : Array Bool := #[o',z',o',o',o',o',z',z',o',z',z',z',z',z',z',z',z',z']
abbrev spec_l23Word.m9 : Array Bool := #[o',z',o',o',o',o',z',z',o',z',o',z',z',z',z',z',z',z']
abbrev spec_l23Word.m10 : Array Bool := #[o',z',o',o',o',o',z',z',o',z',o',o',z',z',z',z',z',z']
abbrev spec_l23Word.m11 : Array Bool := #[o',z',o',o',o',o',z',z',o',z',o',o',o',z',z',z',z',z']
abbrev spec_l23Word.m12 : Array Bool := #[o',z',o',o',o',o',z',z',o',z',o',o',o',o',z',z',z',z']
abbrev spec_l23Word.m13 : Array Bool := #[o',o',z',z',z',z',z',z',z',z',z',z',z',z']
abbrev spec_l23Word.m14 : Array Bool := #[o',o',o',z',z',z',z',z',z',z',z',z',z',z']
abbrev spec_l23Word.m15 : Array Bool := #[o',o',o',z',o',z',z',z',z',z',z',z',z',z']
abbrev spec_l23Word.m16 : Array Bool := #[o',o',o',z',o',o',z',z',z',z',z',z',z',z']
abbrev spec_l23Word.m17 : Array Bool := #[o',o',o',z',o',o',o',z',z',z',z',z',z',z']
abbrev spec_l23Word.m18 : Array Bool := #[o',o',o',z',o',o',o',o',z',z',z',z',z',z']
abbrev spec_l23Word.m19 : Array Bool := #[o',o',o',z',o',o',o',o',o',z',z',z',z',z']
abbrev spec_l23Word.m20 : Array Bool := #[o',o',o',o',o',o',z',z',o',z',o',o',o',o',z',z',z',z']
abbrev spec_l23Word.m21 : Array Bool := #[o',o',o',o',o',o',o',z',o',z',o',o',o',o',z',z',z',z']
abbrev spec_l23Word.m22 : Array Bool := #[o',o',o',o',o',o',o',o',o',z',z',z',z',z']
abbrev spec_l23Word.m23 : Array Bool := #[o',o',o',o',o',o',o',o',o',z',o',o',o',o',z',z',z',z']
abbrev spec_l23Word.m24 : Array Bool := #[o',o',o',o',o',o',o',o',o',o',z',z',z',z']
abbrev spec_l23Word.m25 : Array Bool := #[o',o',o',o',o',o',o',o',o',o',z',o',z',z']
abbrev spec_l23Word.m26 : Array Bool := #[o',o',o',o',o',o',o',o',o',o',o',z',z',z']
abbrev spec_l23Word.m27 : Array Bool := #[o',o',o',o',o',o',o',o',o',o',o',o',z',z']
abbrev spec_l23Word.m28 : Array Bool := #[o',o',o',o',o',o',o',o',o',o',o',o',o',z']
abbrev spec_l23Word.m29 : Array Bool := #[o',o',o',o',o',o',o',o',o',o',o',o',o',o',z',z',z',z']
abbrev spec_l23Word.m30 : Array Bool := #[o',o',o',o',o',o',o',o',o',o',o',o',o',o',o',z',z',z']
abbrev spec_l23Word.m31 : Array Bool := #[o',o',o',o',o',o',o',o',o',o',o',o',o',o',o',o',z',z']
abbrev spec_l23Word.m32 : Array Bool := #[o',o',o',o',o',o',o',o',o',o',o',o',o',o',o',o',o',z']
abbrev spec_l23Word.m33 : Array Bool := #[o',o',o',o',o',o',o',o',o',o',o',o',o',o',o',o',o',o']
abbrev spec_l23Word.m34 : Array Bool := #[o',o',o',o',o',o',o',o',o',o',o',o',o',o']
def spec_l23Word.l0 : Nat → List (S42) → List Int → Int → Int → Int → Int → Int → Option (ByteArray)
 | 0, _, _, _, _, _, _, _ => none
 | k + 1, x0, x3, x6, x350000, x350001, x351000, x351001 => if 0 ≤ x6 then (if x6 < 4 then (if x3.length < 140737488355328 then ((some (x3 ++ [bt (⟨#[114, 100, 108, 117]⟩ : ByteArray) x6] : List Int)).bind fun y351 => ((some (([(⟨1, 0⟩ : S42), (⟨0, 1⟩ : S42), (⟨(-1), 0⟩ : S42), (⟨0, (-1)⟩ : S42)] : List (S42)) : List (S42))).bind fun y354 => (if x6 < (y354.length : Int) then (if ((wrap64 (x351000 + ((rd_T42 y354 x6).f0))) == x350000 && ((wrap64 (x351001 + ((rd_T42 y354 x6).f1))) == x350001)) = true then (some (strOfNums y351)) else ((some (([(⟨wrap64 (x351000 + ((rd_T42 y354 x6).f0)), wrap64 ((wrap64 (x351001 + ((rd_T42 y354 x6).f1))) - 1)⟩ : S42), (⟨wrap64 (x351000 + ((rd_T42 y354 x6).f0)), wrap64 (x351001 + ((rd_T42 y354 x6).f1))⟩ : S42), (⟨wrap64 ((wrap64 (x351000 + ((rd_T42 y354 x6).f0))) - 1), wrap64 (x351001 + ((rd_T42 y354 x6).f1))⟩ : S42), (⟨wrap64 ((wrap64 (x351000 + ((rd_T42 y354 x6).f0))) - 1), wrap64 ((wrap64 (x351001 + ((rd_T42 y354 x6).f1))) - 1)⟩ : S42)] : List (S42)) : List (S42))).bind fun y359 => (if x6 < (y359.length : Int) then (if 0 ≤ (Int.tmod (wrap64 (x6 + 1)) 4) then (if (Int.tmod (wrap64 (x6 + 1)) 4) < (y359.length : Int) then ((spec_l02Index.f k x0 ((rd_T42 y359 x6).f0) ((rd_T42 y359 x6).f1)).bind fun t366 => (if t366 ≥ 0 then (spec_l23Word.l0 k x0 y351 (Int.tmod (wrap64 (x6 + 3)) 4) x350000 x350001 (wrap64 (x351000 + ((rd_T42 y354 x6).f0))) (wrap64 (x351001 + ((rd_T42 y354 x6).f1)))) else ((spec_l02Index.f k x0 ((rd_T42 y359 (Int.tmod (wrap64 (x6 + 1)) 4)).f0) ((rd_T42 y359 (Int.tmod (wrap64 (x6 + 1)) 4)).f1)).bind fun t367 => (if t367 < 0 then (spec_l23Word.l0 k x0 y351 (Int.tmod (wrap64 (x6 + 1)) 4) x350000 x350001 (wrap64 (x351000 + ((rd_T42 y354 x6).f0))) (wrap64 (x351001 + ((rd_T42 y354 x6).f1)))) else (spec_l23Word.l0 k x0 y351 x6 x350000 x350001 (wrap64 (x351000 + ((rd_T42 y354 x6).f0))) (wrap64 (x351001 + ((rd_T42 y354 x6).f1)))))))) else (none)) else (none)) else (none)))) else (none)))) else (none)) else (none)) else (none)
def spec_l23Word.f (k : Nat) (l0 : List (S42)) : Option (ByteArray) := if 0 < (l0.length : Int) then (spec_l23Word.l0 k l0 (([] : List Int)) 0 ((rd_T42 l0 0).f0) ((rd_T42 l0 0).f1) ((rd_T42 l0 0).f0) ((rd_T42 l0 0).f1)) else (none)
theorem spec_l23Word.mono_l : ∀ k, (∀ y0 y1 y2 y3 y4 y5 y6, LeO (spec_l23Word.l0 k y0 y1 y2 y3 y4 y5 y6) (spec_l23Word.l0 (k + 1) y0 y1 y2 y3 y4 y5 y6))
 | 0 => fun _ _ _ _ _ _ _ r h => by simp [spec_l23Word.l0] at h
 | k + 1 => by
  have ih0 := spec_l23Word.mono_l k
  ·intro y0 y1 y2 y3 y4 y5 y6
   unfold spec_l23Word.l0
   repeat' first
   | (with_reducible exact ih0 _ _ _ _ _ _ _)
   | (with_reducible exact spec_l02Index.mono _ _ _ _)
   | (with_reducible exact LeO.refl _)
   | (with_reducible exact LeO.none _)
   | (with_reducible refine LeO.ite ?_ ?_)
   | (with_reducible refine LeO.bind ?_ (fun _ => ?_))
   | exact ih0 _ _ _ _ _ _ _
   | exact spec_l02Index.mono _ _ _ _
   | exact LeO.none _
   | refine LeO.ite ?_ ?_
   | refine LeO.bind ?_ (fun _ => ?_)
theorem spec_l23Word.mono : ∀ a0 k, LeO (spec_l23Word.f k a0) (spec_l23Word.f (k + 1) a0) := by
 intro a0 k
 have ih0 := spec_l23Word.mono_l k
 unfold spec_l23Word.f
 repeat' first
   | (with_reducible exact ih0 _ _ _ _ _ _ _)
   | (with_reducible exact spec_l02Index.mono _ _ _ _)
   | (with_reducible exact LeO.refl _)
   | (with_reducible exact LeO.none _)
   | (with_reducible refine LeO.ite ?_ ?_)
   | (with_reducible refine LeO.bind ?_ (fun _ => ?_))
   | exact ih0 _ _ _ _ _ _ _
   | exact spec_l02Index.mono _ _ _ _
   | exact LeO.none _
   | refine LeO.ite ?_ ?_
   | refine LeO.bind ?_ (fun _ => ?_)
def spec_l23Word.T7 : Bool × List (List Nat × List Nat) := (true, [([], []), ([0], [0]), ([], []), ([], []), ([2, 3], [2, 3]), ([4], [4]), ([5], [5]), ([1, 6], [1, 6]), ([], []), ([8], [8]), ([], []), ([], []), ([10, 11], [10, 11]), ([12], [12]), ([13], [13]), ([9, 14], [9, 14]), ([7, 15], [7, 15]), ([16, 0, 1, 2, 3, 4, 5, 6, 7, 8, 9, 10, 11, 12, 13, 14, 15, 16], [16])])
def spec_l23Word.B7 : List Nat := [0, 1, 0, 0, 12, 28, 60, 127, 0, 256, 0, 0, 3072, 7168, 15360, 32512, 65535, 131071]
theorem spec_l23Word.tab7 : rtab .any (opsOf Tryd.f51 7) = spec_l23Word.T7 := by kernel_rfl
theorem spec_l23Word.bits7 : waitsOk spec_l23Word.T7.2 spec_l23Word.B7 = true := by kernel_rfl
def spec_l23Word.T11 : Bool × List (List Nat × List Nat) := (true, [([], []), ([], []), ([0, 1], [0, 1]), ([2], [2]), ([], []), ([], []), ([5], [5]), ([6], [6]), ([4, 7], [4, 7]), ([8], [8]), ([], []), ([], []), ([10, 3, 0, 1, 2, 3, 10, 11], [3, 10]), ([11, 9, 12, 0, 1, 2, 3, 4, 5, 6, 7, 8, 9, 10, 11, 12], [9, 11])])
def spec_l23Word.B11 : List Nat := [0, 0, 3, 7, 0, 0, 32, 96, 240, 496, 0, 0, 3087, 8191]
theorem spec_l23Word.tab11 : rtab .any (opsOf Tryd.f51 11) = spec_l23Word.T11 := by kernel_rfl
theorem spec_l23Word.bits11 : waitsOk spec_l23Word.T11.2 spec_l23Word.B11 = true := by kernel_rfl
set_option maxHeartbeats 8000000 in
set_option maxRecDepth 100000 in
theorem spec_l23Word.calls (k : Nat) (A0 : Option Addr) (c0 : Nat) (l0 : List (S42)) (r : ByteArray) (w : World) (hr0 : Kd.C k42 w A0 l0.length l0) (hc0 : l0.length ≤ c0) (h : spec_l23Word.f k l0 = some r) :
  Calls Tryd.prog 51 #[.slice A0 l0.length c0] w fun e w' => e = .returned (.string r) ∧ Below w.heap.size w w' := by
 have hu42 := Tryd.underlying42
 have HR0 := am hr0
 have HC0 := am hc0
 clear hr0 hc0
 have HB := am (Below.refl w.heap.size w)
 have H : (if 0 < (l0.length : Int) then (spec_l23Word.l0 k l0 (([] : List Int)) 0 ((rd_T42 l0 0).f0) ((rd_T42 l0 0).f1) ((rd_T42 l0 0).f0) ((rd_T42 l0 0).f1)) else (none)) = some r := h
 clear h
 obtain ⟨y345, hy345⟩ : ∃ y_ : List Int, y_ = (([] : List Int)) := ⟨_, rfl⟩
 replace H : (if 0 < (l0.length : Int) then (spec_l23Word.l0 k l0 y345 0 ((rd_T42 l0 0).f0) ((rd_T42 l0 0).f1) ((rd_T42 l0 0).f0) ((rd_T42 l0 0).f1)) else (none)) = some r := by first | (rw [hy345]; with_reducible exact H) | (have H2_ := (Option.bind_some _ _).symm.trans H; rw [hy345]; with_reducible exact H2_) | (have H2_ := (Option.bind_some _ _).symm.trans H; with_reducible exact H2_) | with_reducible exact H | (rw [hy345]; exact H) | exact H
 have Ny345 := am hy345
 clear hy345
 by_cases c2 : 0 < (l0.length : Int)
 rotate_left
 ·rw [if_neg c2] at H
  exact absurd H (by simp)
 rw [if_pos c2] at H
 have c2b0 : decide (0 < (l0.length : Int)) = true := decide_eq_true c2
 have c2b1 : decide (0 < l0.length) = true := decide_eq_true (by omega)
 clear c2
 have H' := am H
 clear H
 go_enter Tryd.func51, Tryd.ntmps51
 go_wp2_with (first | ((with_reducible refine gate_dst (N := 11) rfl ?_); refine Kd.R_lit (Kd.int .u8) _ 5 ?hg (N := 11) ?hd (xs := ([] : List Int)) (inner := []) (ok := fun _ => True) (okp := fun _ => True) ?hr ?hp (fun _ hk => hk) trivial (Below.refl _ _) (Nat.le_refl _) (by simp) ?_; (case hd => rfl); (case hg => rfl); (case hr => first | (go_simp; done) | (go_simp; rfl)); (case hp => exact (Reps.none _ _)); intro v346 w3 ho4 hb hg_ hnew_; clear hg_ hnew_; (first | rw [← Ny345.out] at ho4 | (simp only [Int.reduceToNat] at ho4; rw [← Ny345.out] at ho4)); have n0_ := am (Kd.R_lower ho4 (Bb5 zB)); have n1_ := am (Bb6 zB hb); clear HB; have HO347 := n0_; have HB := n1_; clear n0_ n1_; clear hb ho4; have p348 : 0 ≤ (0 : Int) := (by omega); have q348 : 0 < (l0.length : Int) := zD; obtain ⟨ad348, e348, hx348_0, hx348_1⟩ := at_T42 HR0.out 0 p348 q348; cases e348; have qi348 : (0 < l0.length) = True := eq_true (by omega); (try rw [show ((0 : Int)).toNat = 0 from rfl] at hx348_0); (try rw [show 0 * 2 = 0 from rfl] at hx348_0); (try rw [Addr.add_zero'] at hx348_0); (try rw [show ((0 : Int)).toNat = 0 from rfl] at hx348_1); (try rw [show 0 * 2 = 0 from rfl] at hx348_1); (try rw [Addr.add_zero'] at hx348_1); replace hx348_0 := pc HB.out hx348_0; replace hx348_1 := pc HB.out hx348_1; replace p348 := eq_true p348; replace q348 := eq_true q348) | ((with_reducible refine gate_dst (N := 4) rfl ?_); refine box_event ?hg (N := 4) ?hd (cs := #[.int .i64 0, .int .i64 0]) (t := 42) ?hr ?_; (case hd => rfl); (case hg => rfl); (case hr => first | (go_simp; done) | (go_simp; rfl)); intro gb349 hg w5 hbox hb; have n0_ := am (Kd.R_below (zR HO347) hb); have n1_ := am (Bb6 zB hb); have n2_ := am (hbox); have n3_ := am ((by rw [hg]; exact (Bb5 zB) : w.heap.size ≤ gb349)); have n4_ := n3_; clear HO347; clear HB; have HO347 := n0_; have HB := n1_; have BK349 := n2_; have GW349 := n3_; have GE349 := n4_; clear n0_ n1_ n2_ n3_ n4_; clear hb hbox hg; have hcz6_0 : w5.cell? ⟨gb349, 0, none⟩ = some (.int .i64 0) := (kc BK349.out 0).trans rfl; have hcz6_1 : w5.cell? ⟨gb349, 1, none⟩ = some (.int .i64 0) := (kc BK349.out 1).trans rfl; have hfz6_0 := kf BK349.out 0; have hfz6_1 := kf BK349.out 1) | ((with_reducible refine gate_dst (N := 5) rfl ?_); refine box_event ?hg (N := 5) ?hd (cs := #[.int .i64 0, .int .i64 0]) (t := 42) ?hr ?_; (case hd => rfl); (case hg => rfl); (case hr => first | (go_simp; done) | (go_simp; rfl)); intro gb350 hg w7 hbox hb; have n0_ := am (Kd.R_below (by (with_reducible repeat (first | apply Kd.R_alloc | apply Kd.R_drewN | apply Kd.R_drew)); exact (Kd.R_mono (Kd.R_far (p := ⟨gb349, 1, none⟩) (Kd.R_far (p := ⟨gb349, 0, none⟩) (Kd.R_types HO347.out BK349.out (by decide)) (fun _ hk => hk.2) (.int .i64 ((rd_T42 l0 0).f0))) (fun _ hk => hk.2) (.int .i64 ((rd_T42 l0 0).f1))) (fun _ h_ => h_.1))) hb); have n1_ := am (Bk4 (g := gb349) (o := .cells #[.int .i64 ((rd_T42 l0 0).f0), .int .i64 ((rd_T42 l0 0).f1)] 42 (0, 0)) (by (with_reducible repeat (first | refine Bk2 ?_ _ | refine Bk3 ?_ | refine Bk1 ?_ _)); refine blk_put (cs := #[.int .i64 ((rd_T42 l0 0).f0), .int .i64 0]) ?_ 1 _ rfl; (with_reducible repeat (first | refine Bk2 ?_ _ | refine Bk3 ?_ | refine Bk1 ?_ _)); refine blk_put (cs := #[.int .i64 0, .int .i64 0]) ?_ 0 _ rfl; (with_reducible repeat (first | refine Bk2 ?_ _ | refine Bk3 ?_ | refine Bk1 ?_ _)); exact BK349.out) hb); have n2_ := am (Bb6 (by repeat (first | (with_reducible first | exact HB.out | apply Bb1 | apply Bb2 | apply Bb3 | refine Bb4 ?_ GE349.out) | exact HB.out)) hb); have n3_ := am (hbox); have n4_ := am ((by rw [hg]; exact (Bb5 (by repeat (first | (with_reducible first | exact HB.out | apply Bb1 | apply Bb2 | apply Bb3 | refine Bb4 ?_ GE349.out) | exact HB.out))) : w.heap.size ≤ gb350)); have n5_ := n4_; have n6_ := am ((by rw [hg]; exact nl (Bk5 (g := gb349) (o := .cells #[.int .i64 ((rd_T42 l0 0).f0), .int .i64 ((rd_T42 l0 0).f1)] 42 (0, 0)) (by (with_reducible repeat (first | refine Bk2 ?_ _ | refine Bk3 ?_ | refine Bk1 ?_ _)); refine blk_put (cs := #[.int .i64 ((rd_T42 l0 0).f0), .int .i64 0]) ?_ 1 _ rfl; (with_reducible repeat (first | refine Bk2 ?_ _ | refine Bk3 ?_ | refine Bk1 ?_ _)); refine blk_put (cs := #[.int .i64 0, .int .i64 0]) ?_ 0 _ rfl; (with_reducible repeat (first | refine Bk2 ?_ _ | refine Bk3 ?_ | refine Bk1 ?_ _)); exact BK349.out)) : gb349 ≠ gb350)); have n7_ := am ((by rw [hg]; exact ng (Bk5 (g := gb349) (o := .cells #[.int .i64 ((rd_T42 l0 0).f0), .int .i64 ((rd_T42 l0 0).f1)] 42 (0, 0)) (by (with_reducible repeat (first | refine Bk2 ?_ _ | refine Bk3 ?_ | refine Bk1 ?_ _)); refine blk_put (cs := #[.int .i64 ((rd_T42 l0 0).f0), .int .i64 0]) ?_ 1 _ rfl; (with_reducible repeat (first | refine Bk2 ?_ _ | refine Bk3 ?_ | refine Bk1 ?_ _)); refine blk_put (cs := #[.int .i64 0, .int .i64 0]) ?_ 0 _ rfl; (with_reducible repeat (first | refine Bk2 ?_ _ | refine Bk3 ?_ | refine Bk1 ?_ _)); exact BK349.out)) : gb350 ≠ gb349)); clear HO347; clear BK349; clear HB; have HO347 := n0_; have BK349 := n1_; have HB := n2_; have BK350 := n3_; have GW350 := n4_; have GE350 := n5_; have NB349_350 := n6_; have NB350_349 := n7_; clear n0_ n1_ n2_ n3_ n4_ n5_ n6_ n7_; clear hb hbox hg; have hnb8 := NB350_349.out; have hnc8 := NB349_350.out; have hcz9_0 : w7.cell? ⟨gb350, 0, none⟩ = some (.int .i64 0) := (kc BK350.out 0).trans rfl; have hcz9_1 : w7.cell? ⟨gb350, 1, none⟩ = some (.int .i64 0) := (kc BK350.out 1).trans rfl; have hfz9_0 := kf BK350.out 0; have hfz9_1 := kf BK350.out 1))
 go_loopg [3, 6] k (fun kq v3 v6 w' => ∃ (x3_1 : List Int) (x6_1 : Int) (x351000_1 : Int) (x351001_1 : Int), v6 = .int .i64 x6_1 ∧ Aside0 (spec_l23Word.l0 kq l0 x3_1 x6_1 ((rd_T42 l0 0).f0) ((rd_T42 l0 0).f1) x351000_1 x351001_1 = some r) ∧ Aside0 (kq ≤ k) ∧ Aside0 (Kd.R (Kd.int .u8) 5 w' w.heap.size (fun _ => True) v3 x3_1) ∧ Aside0 (w'.heap[gb349]? = some (.cells #[.int .i64 ((rd_T42 l0 0).f0), .int .i64 ((rd_T42 l0 0).f1)] 42 (0, 0))) ∧ Aside0 (w'.heap[gb350]? = some (.cells #[.int .i64 x351000_1, .int .i64 x351001_1] 42 (0, 0))) ∧ Aside0 (Below w.heap.size w w'))
 case atStart => exact ⟨(y345), (0), ((rd_T42 l0 0).f0), ((rd_T42 l0 0).f1), zS, H', ⟨Nat.le_refl _⟩, ⟨by (with_reducible repeat (first | apply Kd.R_alloc | apply Kd.R_drewN | apply Kd.R_drew)); exact Kd.R_mono (Kd.R_far (p := ⟨gb350, 1, none⟩) (Kd.R_far (p := ⟨gb350, 0, none⟩) (Kd.R_types HO347.out BK350.out (by decide)) (fun _ hk => hk.2) (.int .i64 ((rd_T42 l0 0).f0))) (fun _ hk => hk.2) (.int .i64 ((rd_T42 l0 0).f1))) (fun _ hk => trivial)⟩, ⟨by (with_reducible repeat (first | refine Bk2 ?_ _ | refine Bk3 ?_ | refine Bk1 ?_ _)); refine blk_far ?_ NB349_350.out _; (with_reducible repeat (first | refine Bk2 ?_ _ | refine Bk3 ?_ | refine Bk1 ?_ _)); refine blk_far ?_ NB349_350.out _; (with_reducible repeat (first | refine Bk2 ?_ _ | refine Bk3 ?_ | refine Bk1 ?_ _)); exact BK349.out⟩, ⟨by (with_reducible repeat (first | refine Bk2 ?_ _ | refine Bk3 ?_ | refine Bk1 ?_ _)); refine blk_put (cs := #[.int .i64 ((rd_T42 l0 0).f0), .int .i64 0]) ?_ 1 _ rfl; (with_reducible repeat (first | refine Bk2 ?_ _ | refine Bk3 ?_ | refine Bk1 ?_ _)); refine blk_put (cs := #[.int .i64 0, .int .i64 0]) ?_ 0 _ rfl; (with_reducible repeat (first | refine Bk2 ?_ _ | refine Bk3 ?_ | refine Bk1 ?_ _)); exact BK350.out⟩, ⟨by repeat (first | (with_reducible first | exact HB.out | apply Bb1 | apply Bb2 | apply Bb3 | refine Bb4 ?_ GE349.out | refine Bb4 ?_ GE350.out) | exact HB.out)⟩⟩
 case round =>
  clear H'
  try clear c2
  try clear c2b0
  try clear c2b1
  try clear p2
  try clear p3
  try clear q3
  try clear hx3
  try clear qi3
  try clear c5
  try clear c8
  try clear hcz6_0
  try clear hcz6_1
  try clear hcz9_0
  try clear hcz9_1
  try clear hfz6_0
  try clear hfz6_1
  try clear hfz9_0
  try clear hfz9_1
  try clear hx348_0
  try clear hx348_1
  try clear p348
  try clear q348
  obtain ⟨x3_1, x6_1, x351000_1, x351001_1, rfl, HA, HK1, HO_3, BK349, BK350, HB⟩ := hrel
  cases gk with
  | zero => exact absurd HA.out (by simp [spec_l23Word.l0])
  | succ k1 =>
   have H := HA.out
   clear HA
   simp only [spec_l23Word.l0] at H
   by_cases c10 : 0 ≤ x6_1
   rotate_left
   ·rw [if_neg c10] at H
    exact absurd H (by simp)
   rw [if_pos c10] at H
   have c10b0 : decide (0 ≤ x6_1) = true := decide_eq_true c10
   clear c10
   by_cases c11 : x6_1 < 4
   rotate_left
   ·rw [if_neg c11] at H
    exact absurd H (by simp)
   rw [if_pos c11] at H
   have c11b0 : decide (x6_1 < 4) = true := decide_eq_true c11
   clear c11
   by_cases c13 : x3_1.length < 140737488355328
   rotate_left
   ·rw [if_neg c13] at H
    exact absurd H (by simp)
   rw [if_pos c13] at H
   have LMc13 := am c13
   clear c13
   obtain ⟨y351, hy351⟩ : ∃ y_ : List Int, y_ = (x3_1 ++ [bt (⟨#[114, 100, 108, 117]⟩ : ByteArray) x6_1]) := ⟨_, rfl⟩
   replace H : ((some (([(⟨1, 0⟩ : S42), (⟨0, 1⟩ : S42), (⟨(-1), 0⟩ : S42), (⟨0, (-1)⟩ : S42)] : List (S42)) : List (S42))).bind fun y354 => (if x6_1 < (y354.length : Int) then (if ((wrap64 (x351000_1 + ((rd_T42 y354 x6_1).f0))) == ((rd_T42 l0 0).f0) && ((wrap64 (x351001_1 + ((rd_T42 y354 x6_1).f1))) == ((rd_T42 l0 0).f1))) = true then (some (strOfNums y351)) else ((some (([(⟨wrap64 (x351000_1 + ((rd_T42 y354 x6_1).f0)), wrap64 ((wrap64 (x351001_1 + ((rd_T42 y354 x6_1).f1))) - 1)⟩ : S42), (⟨wrap64 (x351000_1 + ((rd_T42 y354 x6_1).f0)), wrap64 (x351001_1 + ((rd_T42 y354 x6_1).f1))⟩ : S42), (⟨wrap64 ((wrap64 (x351000_1 + ((rd_T42 y354 x6_1).f0))) - 1), wrap64 (x351001_1 + ((rd_T42 y354 x6_1).f1))⟩ : S42), (⟨wrap64 ((wrap64 (x351000_1 + ((rd_T42 y354 x6_1).f0))) - 1), wrap64 ((wrap64 (x351001_1 + ((rd_T42 y354 x6_1).f1))) - 1)⟩ : S42)] : List (S42)) : List (S42))).bind fun y359 => (if x6_1 < (y359.length : Int) then (if 0 ≤ (Int.tmod (wrap64 (x6_1 + 1)) 4) then (if (Int.tmod (wrap64 (x6_1 + 1)) 4) < (y359.length : Int) then ((spec_l02Index.f k1 l0 ((rd_T42 y359 x6_1).f0) ((rd_T42 y359 x6_1).f1)).bind fun t366 => (if t366 ≥ 0 then (spec_l23Word.l0 k1 l0 y351 (Int.tmod (wrap64 (x6_1 + 3)) 4) ((rd_T42 l0 0).f0) ((rd_T42 l0 0).f1) (wrap64 (x351000_1 + ((rd_T42 y354 x6_1).f0))) (wrap64 (x351001_1 + ((rd_T42 y354 x6_1).f1)))) else ((spec_l02Index.f k1 l0 ((rd_T42 y359 (Int.tmod (wrap64 (x6_1 + 1)) 4)).f0) ((rd_T42 y359 (Int.tmod (wrap64 (x6_1 + 1)) 4)).f1)).bind fun t367 => (if t367 < 0 then (spec_l23Word.l0 k1 l0 y351 (Int.tmod (wrap64 (x6_1 + 1)) 4) ((rd_T42 l0 0).f0) ((rd_T42 l0 0).f1) (wrap64 (x351000_1 + ((rd_T42 y354 x6_1).f0))) (wrap64 (x351001_1 + ((rd_T42 y354 x6_1).f1)))) else (spec_l23Word.l0 k1 l0 y351 x6_1 ((rd_T42 l0 0).f0) ((rd_T42 l0 0).f1) (wrap64 (x351000_1 + ((rd_T42 y354 x6_1).f0))) (wrap64 (x351001_1 + ((rd_T42 y354 x6_1).f1)))))))) else (none)) else (none)) else (none)))) else (none))) = some r := by first | (rw [hy351]; with_reducible exact H) | (have H2_ := (Option.bind_some _ _).symm.trans H; rw [hy351]; with_reducible exact H2_) | (have H2_ := (Option.bind_some _ _).symm.trans H; with_reducible exact H2_) | with_reducible exact H | (rw [hy351]; exact H) | exact H
   have Ny351 := am hy351
   clear hy351
   obtain ⟨y354, hy354⟩ : ∃ y_ : List (S42), y_ = (([(⟨1, 0⟩ : S42), (⟨0, 1⟩ : S42), (⟨(-1), 0⟩ : S42), (⟨0, (-1)⟩ : S42)] : List (S42))) := ⟨_, rfl⟩
   replace H : (if x6_1 < (y354.length : Int) then (if ((wrap64 (x351000_1 + ((rd_T42 y354 x6_1).f0))) == ((rd_T42 l0 0).f0) && ((wrap64 (x351001_1 + ((rd_T42 y354 x6_1).f1))) == ((rd_T42 l0 0).f1))) = true then (some (strOfNums y351)) else ((some (([(⟨wrap64 (x351000_1 + ((rd_T42 y354 x6_1).f0)), wrap64 ((wrap64 (x351001_1 + ((rd_T42 y354 x6_1).f1))) - 1)⟩ : S42), (⟨wrap64 (x351000_1 + ((rd_T42 y354 x6_1).f0)), wrap64 (x351001_1 + ((rd_T42 y354 x6_1).f1))⟩ : S42), (⟨wrap64 ((wrap64 (x351000_1 + ((rd_T42 y354 x6_1).f0))) - 1), wrap64 (x351001_1 + ((rd_T42 y354 x6_1).f1))⟩ : S42), (⟨wrap64 ((wrap64 (x351000_1 + ((rd_T42 y354 x6_1).f0))) - 1), wrap64 ((wrap64 (x351001_1 + ((rd_T42 y354 x6_1).f1))) - 1)⟩ : S42)] : List (S42)) : List (S42))).bind fun y359 => (if x6_1 < (y359.length : Int) then (if 0 ≤ (Int.tmod (wrap64 (x6_1 + 1)) 4) then (if (Int.tmod (wrap64 (x6_1 + 1)) 4) < (y359.length : Int) then ((spec_l02Index.f k1 l0 ((rd_T42 y359 x6_1).f0) ((rd_T42 y359 x6_1).f1)).bind fun t366 => (if t366 ≥ 0 then (spec_l23Word.l0 k1 l0 y351 (Int.tmod (wrap64 (x6_1 + 3)) 4) ((rd_T42 l0 0).f0) ((rd_T42 l0 0).f1) (wrap64 (x351000_1 + ((rd_T42 y354 x6_1).f0))) (wrap64 (x351001_1 + ((rd_T42 y354 x6_1).f1)))) else ((spec_l02Index.f k1 l0 ((rd_T42 y359 (Int.tmod (wrap64 (x6_1 + 1)) 4)).f0) ((rd_T42 y359 (Int.tmod (wrap64 (x6_1 + 1)) 4)).f1)).bind fun t367 => (if t367 < 0 then (spec_l23Word.l0 k1 l0 y351 (Int.tmod (wrap64 (x6_1 + 1)) 4) ((rd_T42 l0 0).f0) ((rd_T42 l0 0).f1) (wrap64 (x351000_1 + ((rd_T42 y354 x6_1).f0))) (wrap64 (x351001_1 + ((rd_T42 y354 x6_1).f1)))) else (spec_l23Word.l0 k1 l0 y351 x6_1 ((rd_T42 l0 0).f0) ((rd_T42 l0 0).f1) (wrap64 (x351000_1 + ((rd_T42 y354 x6_1).f0))) (wrap64 (x351001_1 + ((rd_T42 y354 x6_1).f1)))))))) else (none)) else (none)) else (none)))) else (none)) = some r := by first | (rw [hy354]; with_reducible exact H) | (have H2_ := (Option.bind_some _ _).symm.trans H; rw [hy354]; with_reducible exact H2_) | (have H2_ := (Option.bind_some _ _).symm.trans H; with_reducible exact H2_) | with_reducible exact H | (rw [hy354]; exact H) | exact H
   have Ny354 := am hy354
   clear hy354
   by_cases c14 : x6_1 < (y354.length : Int)
   rotate_left
   ·rw [if_neg c14] at H
    exact absurd H (by simp)
   rw [if_pos c14] at H
   have c14b0 : decide (x6_1 < (y354.length : Int)) = true := decide_eq_true c14
   clear c14
   by_cases c15 : ((wrap64 (x351000_1 + ((rd_T42 y354 x6_1).f0))) == ((rd_T42 l0 0).f0) && ((wrap64 (x351001_1 + ((rd_T42 y354 x6_1).f1))) == ((rd_T42 l0 0).f1))) = true
   ·rw [if_pos c15] at H
    have c15b0 : ((wrap64 (x351000_1 + ((rd_T42 y354 x6_1).f0))) == ((rd_T42 l0 0).f0) && ((wrap64 (x351001_1 + ((rd_T42 y354 x6_1).f1))) == ((rd_T42 l0 0).f1))) = true := c15
    (try (have c15b1 : decide ((wrap64 (x351000_1 + ((rd_T42 y354 x6_1).f0))) = ((rd_T42 l0 0).f0) && ((wrap64 (x351001_1 + ((rd_T42 y354 x6_1).f1))) == ((rd_T42 l0 0).f1))) = true := by simpa using c15))
    (try (have c15b2 : ((wrap64 (x351000_1 + ((rd_T42 y354 x6_1).f0))) == ((rd_T42 l0 0).f0) && ((wrap64 (x351001_1 + ((rd_T42 y354 x6_1).f1))) == ((rd_T42 l0 0).f1))) = true := by simpa using c15))
    clear c15
    obtain rfl := oi H
    have p12 : 0 ≤ (x6_1 : Int) := zD
    have q12 : x6_1 < (4 : Int) := zD
    have hx12 := bt_at (⟨#[114, 100, 108, 117]⟩ : ByteArray) x6_1
    replace p12 := eq_true p12
    replace q12 := eq_true q12
    try go_wp2_with (first | ((with_reducible refine gate_builtin (b := .append) (xs := #[.tmp 16, .tmp 19]) rfl ?_); at_builtin; refine Kd.R_append (Kd.int .u8) (w0 := w) w.heap.size rfl (.tmp 16) (.tmp 19) 32 5 (.int .u8 0) 1 rfl Tryd.underlying32 info5 rfl (by decide) (by omega) u3 x3_1 (bt (⟨#[114, 100, 108, 117]⟩ : ByteArray) x6_1) [.int .u8 (bt (⟨#[114, 100, 108, 117]⟩ : ByteArray) x6_1)] (fun _ => True) (fun _ => False) rfl rfl ?aP (fun _ hk => hk.elim) ?aF ?aO ?aB ?aS ?aL ?_; (case aP => exact rfl); (case aB => exact (by repeat (first | (with_reducible first | exact HB.out | apply Bb1 | apply Bb2 | apply Bb3 | refine Bb4 ?_ GE349.out | refine Bb4 ?_ GE350.out) | exact HB.out))); (case aF => exact (fun _ _ => trivial)); (case aO => exact (zR HO_3)); (case aS => exact (Bb5 (by repeat (first | (with_reducible first | exact HB.out | apply Bb1 | apply Bb2 | apply Bb3 | refine Bb4 ?_ GE349.out | refine Bb4 ?_ GE350.out) | exact HB.out)))); (case aL => have := LMc13.out; omega); intro v352 w16 ho hb hg hat; rw [← Ny351.out] at ho; have n0_ := am (blk_grown (g := gb349) (o := .cells #[.int .i64 ((rd_T42 l0 0).f0), .int .i64 ((rd_T42 l0 0).f1)] 42 (0, 0)) (zK BK349) hg (Kd.R_ne HO_3.out BK349.out (by decide))); have n1_ := am (blk_grown (g := gb350) (o := .cells #[.int .i64 x351000_1, .int .i64 x351001_1] 42 (0, 0)) (zK BK350) hg (Kd.R_ne HO_3.out BK350.out (by decide))); have n2_ := am (hb); have n3_ := am (ho); clear BK349; clear BK350; clear HB; clear HO_3; have BK349 := n0_; have BK350 := n1_; have HB := n2_; have HO353 := n3_; clear n0_ n1_ n2_ n3_; clear ho hb hg hat) | ((with_reducible refine gate_dst (N := 25) rfl ?_); refine Kd.R_lit k42 _ 42 ?hg (N := 25) ?hd (xs := ([(⟨1, 0⟩ : S42), (⟨0, 1⟩ : S42), (⟨(-1), 0⟩ : S42), (⟨0, (-1)⟩ : S42)] : List (S42))) (inner := [.int .i64 1, .int .i64 0, .int .i64 0, .int .i64 1, .int .i64 (-1), .int .i64 0, .int .i64 0, .int .i64 (-1)]) (ok := fun _ => True) (okp := fun _ => True) ?hr ?hp (fun _ hk => hk) trivial (Below.refl _ _) (Nat.le_refl _) (by simp) ?_; (case hd => rfl); (case hg => rfl); (case hr => first | (go_simp; done) | (go_simp; rfl)); (case hp => exact (Reps.c2 (show Kd.M k42 _ _ _ (⟨1, 0⟩ : S42) [.int .i64 1, .int .i64 0] from (k42_mkM _ _ _ (⟨1, 0⟩ : S42) )) (Reps.c2 (show Kd.M k42 _ _ _ (⟨0, 1⟩ : S42) [.int .i64 0, .int .i64 1] from (k42_mkM _ _ _ (⟨0, 1⟩ : S42) )) (Reps.c2 (show Kd.M k42 _ _ _ (⟨(-1), 0⟩ : S42) [.int .i64 (-1), .int .i64 0] from (k42_mkM _ _ _ (⟨(-1), 0⟩ : S42) )) (Reps.c2 (show Kd.M k42 _ _ _ (⟨0, (-1)⟩ : S42) [.int .i64 0, .int .i64 (-1)] from (k42_mkM _ _ _ (⟨0, (-1)⟩ : S42) )) (Reps.none _ _)))))); intro v355 w17 ho18 hb hg_ hnew_; clear hg_ hnew_; (first | rw [← Ny354.out] at ho18 | (simp only [Int.reduceToNat] at ho18; rw [← Ny354.out] at ho18)); have n0_ := am (Kd.R_below (zR HO353) hb); have n1_ := am (Kd.R_lower (Kd.R_newB (Kd.R_newB ho18 (g := gb349) (o := .cells #[.int .i64 ((rd_T42 l0 0).f0), .int .i64 ((rd_T42 l0 0).f1)] 42 (0, 0)) (zK BK349)) (g := gb350) (o := .cells #[.int .i64 x351000_1, .int .i64 x351001_1] 42 (0, 0)) (zK BK350)) (Bb5 (by repeat (first | (with_reducible first | exact HB.out | apply Bb1 | apply Bb2 | apply Bb3 | refine Bb4 ?_ GE349.out | refine Bb4 ?_ GE350.out) | exact HB.out)))); have n2_ := am (Bk4 (g := gb349) (o := .cells #[.int .i64 ((rd_T42 l0 0).f0), .int .i64 ((rd_T42 l0 0).f1)] 42 (0, 0)) (zK BK349) hb); have n3_ := am (Bk4 (g := gb350) (o := .cells #[.int .i64 x351000_1, .int .i64 x351001_1] 42 (0, 0)) (zK BK350) hb); have n4_ := am (Bb6 (by repeat (first | (with_reducible first | exact HB.out | apply Bb1 | apply Bb2 | apply Bb3 | refine Bb4 ?_ GE349.out | refine Bb4 ?_ GE350.out) | exact HB.out)) hb); clear HO353; clear BK349; clear BK350; clear HB; have HO353 := n0_; have HO356 := n1_; have BK349 := n2_; have BK350 := n3_; have HB := n4_; clear n0_ n1_ n2_ n3_ n4_; clear hb ho18))
    have n0_ := am (Kd.R_drew HO353.out)
    have n1_ := am (Kd.R_drew HO356.out)
    have n2_ := am (Bk3 BK349.out)
    have n3_ := am (Bk3 BK350.out)
    have n4_ := am (Bb3 HB.out)
    clear HO353
    clear HO356
    clear BK349
    clear BK350
    clear HB
    have HO353 := n0_
    have HO356 := n1_
    have BK349 := n2_
    have BK350 := n3_
    have HB := n4_
    clear n0_ n1_ n2_ n3_ n4_
    obtain ⟨Ao20, co20, eo20⟩ := Kd.R_slice HO356.out
    (first | subst eo20 | (injection eo20 with f1_ f2_ f3_; have f4_ := f1_.symm; have f5_ := f3_.symm; clear f1_ f2_ f3_; subst f4_; subst f5_))
    have p357 : 0 ≤ (x6_1 : Int) := zD
    have q357 : x6_1 < (y354.length : Int) := zD
    obtain ⟨ad357, e357, hx357_0, hx357_1⟩ := at_T42 (Kd.R_reads' HO356.out).2.2 x6_1 p357 q357
    cases e357
    replace p357 := eq_true p357
    replace q357 := eq_true q357
    have p358 : 0 ≤ (x6_1 : Int) := zD
    have q358 : x6_1 < (y354.length : Int) := zD
    obtain ⟨ad358, e358, hx358_0, hx358_1⟩ := at_T42 (Kd.R_reads' HO356.out).2.2 x6_1 p358 q358
    obtain rfl : ad357 = ad358 := (by injection e358)
    replace p358 := eq_true p358
    replace q358 := eq_true q358
    refine start_ (n := 18) (S := fun w' => w'.cell? ⟨gb350, 0, none⟩ = some (.int .i64 x351000_1) ∧ w'.cell? ⟨gb350, 1, none⟩ = some (.int .i64 x351001_1) ∧ w'.cell? (ad357.add ((x6_1).toNat * 2)) = some (.int .i64 ((rd_T42 y354 x6_1).f0)) ∧ w'.cell? ⟨(ad357.add ((x6_1).toNat * 2)).block, (ad357.add ((x6_1).toNat * 2)).off + 1, none⟩ = some (.int .i64 ((rd_T42 y354 x6_1).f1)) ∧ w'.cell? (ad357.add ((x6_1).toNat * 2)) = some (.int .i64 ((rd_T42 y354 x6_1).f0)) ∧ w'.cell? ⟨(ad357.add ((x6_1).toNat * 2)).block, (ad357.add ((x6_1).toNat * 2)).off + 1, none⟩ = some (.int .i64 ((rd_T42 y354 x6_1).f1))) (ds := [17]) spec_l23Word.m0 (by kernel_rfl) rfl rfl ⟨(kc BK350.out 0).trans rfl, (kc BK350.out 1).trans rfl, hx357_0, hx357_1, hx358_0, hx358_1⟩ (fun hHeld => ?_); refine with_tabW spec_l23Word.tab7 spec_l23Word.bits7 (fun HT_ HW_ => ?_)
    generalize w17.drew = w19 at HO353 HO356 BK349 BK350 HB hx357_0 hx357_1 hx358_0 hx358_1 hHeld ⊢
    refine pure_ (i := 0) (N := some 26) (v := ?_) (a' := ?_) spec_l23Word.m2 rfl rfl zA (fun _ _ _ h => h) (Or.inl ⟨by rfl, ?_⟩) ?_ ?_
    rotate_left
    ·intro w'
     go_simp
     with_reducible rfl
    rotate_left
    ·exact zP
    refine pure_ (i := 2) (N := some 28) (v := ?_) (a' := ?_) spec_l23Word.m4 rfl rfl zA (fun _ _ _ h => h) (Or.inl ⟨by rfl, ?_⟩) ?_ ?_
    rotate_left
    ·intro w'
     go_simp
     with_reducible rfl
    rotate_left
    ·exact zP
    refine pure_ (i := 3) (N := some 29) (v := ?_) (a' := ?_) spec_l23Word.m5 rfl rfl zA (fun _ _ _ h => h) (Or.inl ⟨by rfl, ?_⟩) ?_ ?_
    rotate_left
    ·intro w'
     go_simp
     with_reducible rfl
    rotate_left
    ·exact zP
    refine pure_ (i := 4) (N := some 30) (v := ?_) (a' := ?_) spec_l23Word.m6 rfl rfl zA (fun _ _ _ h => h) (Or.inl ⟨by rfl, ?_⟩) ?_ ?_
    rotate_left
    ·intro w'
     go_simp
     with_reducible rfl
    rotate_left
    ·exact zP
    refine pure_ (i := 5) (N := some 31) (v := ?_) (a' := ?_) spec_l23Word.m7 rfl rfl zA (fun _ _ _ h => h) (Or.inl ⟨by rfl, ?_⟩) ?_ ?_
    rotate_left
    ·intro w'
     go_simp
     with_reducible rfl
    rotate_left
    ·exact zP
    refine pure_ (i := 8) (N := some 34) (v := ?_) (a' := ?_) spec_l23Word.m8 rfl rfl zA (fun _ _ _ h => h) (Or.inl ⟨by rfl, ?_⟩) ?_ ?_
    rotate_left
    ·intro w'
     go_simp
     with_reducible rfl
    rotate_left
    ·exact zP
    refine pure_ (i := 10) (N := some 36) (v := ?_) (a' := ?_) spec_l23Word.m9 rfl rfl zA (fun _ _ _ h => h) (Or.inl ⟨by rfl, ?_⟩) ?_ ?_
    rotate_left
    ·intro w'
     go_simp
     with_reducible rfl
    rotate_left
    ·exact zP
    refine pure_ (i := 11) (N := some 37) (v := ?_) (a' := ?_) spec_l23Word.m10 rfl rfl zA (fun _ _ _ h => h) (Or.inl ⟨by rfl, ?_⟩) ?_ ?_
    rotate_left
    ·intro w'
     go_simp
     with_reducible rfl
    rotate_left
    ·exact zP
    refine pure_ (i := 12) (N := some 38) (v := ?_) (a' := ?_) spec_l23Word.m11 rfl rfl zA (fun _ _ _ h => h) (Or.inl ⟨by rfl, ?_⟩) ?_ ?_
    rotate_left
    ·intro w'
     go_simp
     with_reducible rfl
    rotate_left
    ·exact zP
    refine pure_ (i := 13) (N := some 39) (v := ?_) (a' := ?_) spec_l23Word.m12 rfl rfl zA (fun _ _ _ h => h) (Or.inl ⟨by rfl, ?_⟩) ?_ ?_
    rotate_left
    ·intro w'
     go_simp
     with_reducible rfl
    rotate_left
    ·exact zP
    refine take_ (i := 1) (N := some 27) (v := ?_) (a' := ?_) spec_l23Word.m20 rfl rfl (take_ofW HT_.out HW_.out (by kernel_rfl)) (fun _ _ _ h => h) (Or.inl ⟨by rfl, ?_⟩) hHeld ?_ ?_
    rotate_left
    ·rintro w' ⟨s0, s1, s2, s3, s4, s5⟩
     go_simp
     with_reducible rfl
    rotate_left
    ·exact zP
    refine take_ (i := 6) (N := some 32) (v := ?_) (a' := ?_) spec_l23Word.m21 rfl rfl (take_ofW HT_.out HW_.out (by kernel_rfl)) (fun _ _ _ h => h) (Or.inl ⟨by rfl, ?_⟩) hHeld ?_ ?_
    rotate_left
    ·rintro w' ⟨s0, s1, s2, s3, s4, s5⟩
     go_simp
     with_reducible rfl
    rotate_left
    ·exact zP
    refine pure_ (i := 7) (N := some 33) (v := ?_) (a' := ?_) spec_l23Word.m23 rfl rfl zA (fun _ _ _ h => h) (Or.inl ⟨by rfl, ?_⟩) ?_ ?_
    rotate_left
    ·intro w'
     go_simp
     with_reducible rfl
    rotate_left
    ·exact zP
    refine take_ (i := 9) (N := some 35) (v := ?_) (a' := ?_) spec_l23Word.m29 rfl rfl (take_ofW HT_.out HW_.out (by kernel_rfl)) (fun _ _ _ h => h) (Or.inl ⟨by rfl, ?_⟩) hHeld ?_ ?_
    rotate_left
    ·rintro w' ⟨s0, s1, s2, s3, s4, s5⟩
     go_simp
     with_reducible rfl
    rotate_left
    ·exact zP
    refine take_ (i := 14) (N := some 40) (v := ?_) (a' := ?_) spec_l23Word.m30 rfl rfl (take_ofW HT_.out HW_.out (by kernel_rfl)) (fun _ _ _ h => h) (Or.inl ⟨by rfl, ?_⟩) hHeld ?_ ?_
    rotate_left
    ·rintro w' ⟨s0, s1, s2, s3, s4, s5⟩
     go_simp
     with_reducible rfl
    rotate_left
    ·exact zP
    refine pure_ (i := 15) (N := some 41) (v := ?_) (a' := ?_) spec_l23Word.m31 rfl rfl zA (fun _ _ _ h => h) (Or.inl ⟨by rfl, ?_⟩) ?_ ?_
    rotate_left
    ·intro w'
     go_simp
     with_reducible rfl
    rotate_left
    ·exact zP
    refine pure_ (i := 16) (N := some 42) (v := ?_) (a' := ?_) spec_l23Word.m32 rfl rfl zA (fun _ _ _ h => h) (Or.inl ⟨by rfl, ?_⟩) ?_ ?_
    rotate_left
    ·intro w'
     go_simp
     with_reducible rfl
    rotate_left
    ·exact zP
    refine last_ (i := 17) (N := none) spec_l23Word.m33 rfl rfl (one_of HT_.out (by kernel_rfl)) (by decide) (fun K hK => ?_)
    have hs21 : w19.cell? ⟨gb350, 0, none⟩ = some (.int .i64 x351000_1) := (kc BK350.out 0).trans rfl
    have hfs21 := kf BK350.out 0
    have hns21_0 := NB349_350.out
    have hms21_0 := NB350_349.out
    have hs22 : w19.cell? ⟨gb350, 1, none⟩ = some (.int .i64 x351001_1) := (kc BK350.out 1).trans rfl
    have hfs22 := kf BK350.out 1
    have hns22_0 := NB349_350.out
    have hms22_0 := NB350_349.out
    refine skip_ (w1 := ?_) (by rfl) rfl ?_ ?_
    rotate_left
    ·go_simp
     rfl
    refine hK.out _ _ ?_
    clear hK K
    refine done_ (done_of HT_.out (by kernel_rfl)) ?_
    have hnb23 := NB350_349.out
    have hnc23 := NB349_350.out
    have hcz24_0 : w19.cell? ⟨gb350, 0, none⟩ = some (.int .i64 x351000_1) := (kc BK350.out 0).trans rfl
    have hcz24_1 : w19.cell? ⟨gb350, 1, none⟩ = some (.int .i64 x351001_1) := (kc BK350.out 1).trans rfl
    have hfz24_0 := kf BK350.out 0
    have hfz24_1 := kf BK350.out 1
    have hcz25_0 : w19.cell? ⟨gb349, 0, none⟩ = some (.int .i64 ((rd_T42 l0 0).f0)) := (kc BK349.out 0).trans rfl
    have hcz25_1 : w19.cell? ⟨gb349, 1, none⟩ = some (.int .i64 ((rd_T42 l0 0).f1)) := (kc BK349.out 1).trans rfl
    have hfz25_0 := kf BK349.out 0
    have hfz25_1 := kf BK349.out 1
    have hcv26 := own_string (P := Tryd.prog) Tryd.underlying32 Tryd.underlying5 Tryd.underlying9 (Kd.own_of_R HO353.out)
    have hcv26z := fun (u1 u2 : Value) => own_string (P := Tryd.prog) Tryd.underlying32 Tryd.underlying5 Tryd.underlying9 (Kd.own_of_R (Kd.R_set (Kd.R_set HO353.out BK350.out (by intro q hq; rcases List.mem_cons.1 hq with rfl | hq <;> first | decide | exact absurd hq List.not_mem_nil | cases hq) 0 u1) (blk_put BK350.out 0 u1 rfl) (by intro q hq; rcases List.mem_cons.1 hq with rfl | hq <;> first | decide | exact absurd hq List.not_mem_nil | cases hq) 1 u2))
    try go_wp2
    go_ret
    exact ⟨zE, by repeat (first | (with_reducible first | exact HB.out | apply Bb1 | apply Bb2 | apply Bb3 | refine Bb4 ?_ GE349.out | refine Bb4 ?_ GE350.out) | exact HB.out)⟩
   rw [if_neg c15] at H
   have c15b0 : ((wrap64 (x351000_1 + ((rd_T42 y354 x6_1).f0))) == ((rd_T42 l0 0).f0) && ((wrap64 (x351001_1 + ((rd_T42 y354 x6_1).f1))) == ((rd_T42 l0 0).f1))) = false := by simpa using c15
   (try (have c15b1 : decide ((wrap64 (x351000_1 + ((rd_T42 y354 x6_1).f0))) = ((rd_T42 l0 0).f0) && ((wrap64 (x351001_1 + ((rd_T42 y354 x6_1).f1))) == ((rd_T42 l0 0).f1))) = false := by simpa using c15))
   (try (have c15b2 : ((wrap64 (x351000_1 + ((rd_T42 y354 x6_1).f0))) == ((rd_T42 l0 0).f0) && ((wrap64 (x351001_1 + ((rd_T42 y354 x6_1).f1))) == ((rd_T42 l0 0).f1))) = false := by simpa using c15))
   (try (have c15b3 : ¬ ((wrap64 (x351000_1 + ((rd_T42 y354 x6_1).f0))) = ((rd_T42 l0 0).f0) && ((wrap64 (x351001_1 + ((rd_T42 y354 x6_1).f1))) == ((rd_T42 l0 0).f1))) := by simpa using c15))
   clear c15
   obtain ⟨y359, hy359⟩ : ∃ y_ : List (S42), y_ = (([(⟨wrap64 (x351000_1 + ((rd_T42 y354 x6_1).f0)), wrap64 ((wrap64 (x351001_1 + ((rd_T42 y354 x6_1).f1))) - 1)⟩ : S42), (⟨wrap64 (x351000_1 + ((rd_T42 y354 x6_1).f0)), wrap64 (x351001_1 + ((rd_T42 y354 x6_1).f1))⟩ : S42), (⟨wrap64 ((wrap64 (x351000_1 + ((rd_T42 y354 x6_1).f0))) - 1), wrap64 (x351001_1 + ((rd_T42 y354 x6_1).f1))⟩ : S42), (⟨wrap64 ((wrap64 (x351000_1 + ((rd_T42 y354 x6_1).f0))) - 1), wrap64 ((wrap64 (x351001_1 + ((rd_T42 y354 x6_1).f1))) - 1)⟩ : S42)] : List (S42))) := ⟨_, rfl⟩
   replace H : (if x6_1 < (y359.length : Int) then (if 0 ≤ (Int.tmod (wrap64 (x6_1 + 1)) 4) then (if (Int.tmod (wrap64 (x6_1 + 1)) 4) < (y359.length : Int) then ((spec_l02Index.f k1 l0 ((rd_T42 y359 x6_1).f0) ((rd_T42 y359 x6_1).f1)).bind fun t366 => (if t366 ≥ 0 then (spec_l23Word.l0 k1 l0 y351 (Int.tmod (wrap64 (x6_1 + 3)) 4) ((rd_T42 l0 0).f0) ((rd_T42 l0 0).f1) (wrap64 (x351000_1 + ((rd_T42 y354 x6_1).f0))) (wrap64 (x351001_1 + ((rd_T42 y354 x6_1).f1)))) else ((spec_l02Index.f k1 l0 ((rd_T42 y359 (Int.tmod (wrap64 (x6_1 + 1)) 4)).f0) ((rd_T42 y359 (Int.tmod (wrap64 (x6_1 + 1)) 4)).f1)).bind fun t367 => (if t367 < 0 then (spec_l23Word.l0 k1 l0 y351 (Int.tmod (wrap64 (x6_1 + 1)) 4) ((rd_T42 l0 0).f0) ((rd_T42 l0 0).f1) (wrap64 (x351000_1 + ((rd_T42 y354 x6_1).f0))) (wrap64 (x351001_1 + ((rd_T42 y354 x6_1).f1)))) else (spec_l23Word.l0 k1 l0 y351 x6_1 ((rd_T42 l0 0).f0) ((rd_T42 l0 0).f1) (wrap64 (x351000_1 + ((rd_T42 y354 x6_1).f0))) (wrap64 (x351001_1 + ((rd_T42 y354 x6_1).f1)))))))) else (none)) else (none)) else (none)) = some r := by first | (rw [hy359]; with_reducible exact H) | (have H2_ := (Option.bind_some _ _).symm.trans H; rw [hy359]; with_reducible exact H2_) | (have H2_ := (Option.bind_some _ _).symm.trans H; with_reducible exact H2_) | with_reducible exact H | (rw [hy359]; exact H) | exact H
   have Ny359 := am hy359
   clear hy359
   by_cases c27 : x6_1 < (y359.length : Int)
   rotate_left
   ·rw [if_neg c27] at H
    exact absurd H (by simp)
   rw [if_pos c27] at H
   have c27b0 : decide (x6_1 < (y359.length : Int)) = true := decide_eq_true c27
   clear c27
   obtain ⟨ji28, hji28⟩ : ∃ j_ : Int, (Int.tmod (wrap64 (x6_1 + 1)) 4) = j_ := ⟨_, rfl⟩
   replace H : (if 0 ≤ (ji28) then (if (ji28) < (y359.length : Int) then ((spec_l02Index.f k1 l0 ((rd_T42 y359 x6_1).f0) ((rd_T42 y359 x6_1).f1)).bind fun t366 => (if t366 ≥ 0 then (spec_l23Word.l0 k1 l0 y351 (Int.tmod (wrap64 (x6_1 + 3)) 4) ((rd_T42 l0 0).f0) ((rd_T42 l0 0).f1) (wrap64 (x351000_1 + ((rd_T42 y354 x6_1).f0))) (wrap64 (x351001_1 + ((rd_T42 y354 x6_1).f1)))) else ((spec_l02Index.f k1 l0 ((rd_T42 y359 (ji28)).f0) ((rd_T42 y359 (ji28)).f1)).bind fun t367 => (if t367 < 0 then (spec_l23Word.l0 k1 l0 y351 ji28 ((rd_T42 l0 0).f0) ((rd_T42 l0 0).f1) (wrap64 (x351000_1 + ((rd_T42 y354 x6_1).f0))) (wrap64 (x351001_1 + ((rd_T42 y354 x6_1).f1)))) else (spec_l23Word.l0 k1 l0 y351 x6_1 ((rd_T42 l0 0).f0) ((rd_T42 l0 0).f1) (wrap64 (x351000_1 + ((rd_T42 y354 x6_1).f0))) (wrap64 (x351001_1 + ((rd_T42 y354 x6_1).f1)))))))) else (none)) else (none)) = some r := by first | (rw [hji28] at H; exact H) | (simp only [hji28] at H ⊢; exact H)
   by_cases c29 : 0 ≤ (ji28)
   rotate_left
   ·rw [if_neg c29] at H
    exact absurd H (by simp)
   rw [if_pos c29] at H
   have c29b0 : decide (0 ≤ (ji28)) = true := decide_eq_true c29
   clear c29
   by_cases c30 : (ji28) < (y359.length : Int)
   rotate_left
   ·rw [if_neg c30] at H
    exact absurd H (by simp)
   rw [if_pos c30] at H
   have c30b0 : decide ((ji28) < (y359.length : Int)) = true := decide_eq_true c30
   clear c30
   replace H := ob H
   obtain ⟨t366, A310, H⟩ := H
   (try dsimp only at H)
   have A31 := am A310
   clear A310
   by_cases c32 : t366 ≥ 0
   ·rw [if_pos c32] at H
    have c32b0 : decide (0 ≤ t366) = true := decide_eq_true c32
    clear c32
    have H' := am H
    clear H
    have p12 : 0 ≤ (x6_1 : Int) := zD
    have q12 : x6_1 < (4 : Int) := zD
    have hx12 := bt_at (⟨#[114, 100, 108, 117]⟩ : ByteArray) x6_1
    replace p12 := eq_true p12
    replace q12 := eq_true q12
    try go_wp2_with (first | ((with_reducible refine gate_builtin (b := .append) (xs := #[.tmp 16, .tmp 19]) rfl ?_); at_builtin; refine Kd.R_append (Kd.int .u8) (w0 := w) w.heap.size rfl (.tmp 16) (.tmp 19) 32 5 (.int .u8 0) 1 rfl Tryd.underlying32 info5 rfl (by decide) (by omega) u3 x3_1 (bt (⟨#[114, 100, 108, 117]⟩ : ByteArray) x6_1) [.int .u8 (bt (⟨#[114, 100, 108, 117]⟩ : ByteArray) x6_1)] (fun _ => True) (fun _ => False) rfl rfl ?aP (fun _ hk => hk.elim) ?aF ?aO ?aB ?aS ?aL ?_; (case aP => exact rfl); (case aB => exact (by repeat (first | (with_reducible first | exact HB.out | apply Bb1 | apply Bb2 | apply Bb3 | refine Bb4 ?_ GE349.out | refine Bb4 ?_ GE350.out) | exact HB.out))); (case aF => exact (fun _ _ => trivial)); (case aO => exact (zR HO_3)); (case aS => exact (Bb5 (by repeat (first | (with_reducible first | exact HB.out | apply Bb1 | apply Bb2 | apply Bb3 | refine Bb4 ?_ GE349.out | refine Bb4 ?_ GE350.out) | exact HB.out)))); (case aL => have := LMc13.out; omega); intro v352 w33 ho hb hg hat; rw [← Ny351.out] at ho; have n0_ := am (blk_grown (g := gb349) (o := .cells #[.int .i64 ((rd_T42 l0 0).f0), .int .i64 ((rd_T42 l0 0).f1)] 42 (0, 0)) (zK BK349) hg (Kd.R_ne HO_3.out BK349.out (by decide))); have n1_ := am (blk_grown (g := gb350) (o := .cells #[.int .i64 x351000_1, .int .i64 x351001_1] 42 (0, 0)) (zK BK350) hg (Kd.R_ne HO_3.out BK350.out (by decide))); have n2_ := am (hb); have n3_ := am (ho); clear BK349; clear BK350; clear HB; clear HO_3; have BK349 := n0_; have BK350 := n1_; have HB := n2_; have HO353 := n3_; clear n0_ n1_ n2_ n3_; clear ho hb hg hat) | ((with_reducible refine gate_dst (N := 25) rfl ?_); refine Kd.R_lit k42 _ 42 ?hg (N := 25) ?hd (xs := ([(⟨1, 0⟩ : S42), (⟨0, 1⟩ : S42), (⟨(-1), 0⟩ : S42), (⟨0, (-1)⟩ : S42)] : List (S42))) (inner := [.int .i64 1, .int .i64 0, .int .i64 0, .int .i64 1, .int .i64 (-1), .int .i64 0, .int .i64 0, .int .i64 (-1)]) (ok := fun _ => True) (okp := fun _ => True) ?hr ?hp (fun _ hk => hk) trivial (Below.refl _ _) (Nat.le_refl _) (by simp) ?_; (case hd => rfl); (case hg => rfl); (case hr => first | (go_simp; done) | (go_simp; rfl)); (case hp => exact (Reps.c2 (show Kd.M k42 _ _ _ (⟨1, 0⟩ : S42) [.int .i64 1, .int .i64 0] from (k42_mkM _ _ _ (⟨1, 0⟩ : S42) )) (Reps.c2 (show Kd.M k42 _ _ _ (⟨0, 1⟩ : S42) [.int .i64 0, .int .i64 1] from (k42_mkM _ _ _ (⟨0, 1⟩ : S42) )) (Reps.c2 (show Kd.M k42 _ _ _ (⟨(-1), 0⟩ : S42) [.int .i64 (-1), .int .i64 0] from (k42_mkM _ _ _ (⟨(-1), 0⟩ : S42) )) (Reps.c2 (show Kd.M k42 _ _ _ (⟨0, (-1)⟩ : S42) [.int .i64 0, .int .i64 (-1)] from (k42_mkM _ _ _ (⟨0, (-1)⟩ : S42) )) (Reps.none _ _)))))); intro v355 w34 ho35 hb hg_ hnew_; clear hg_ hnew_; (first | rw [← Ny354.out] at ho35 | (simp only [Int.reduceToNat] at ho35; rw [← Ny354.out] at ho35)); have n0_ := am (Kd.R_below (zR HO353) hb); have n1_ := am (Kd.R_lower (Kd.R_newB (Kd.R_newB ho35 (g := gb349) (o := .cells #[.int .i64 ((rd_T42 l0 0).f0), .int .i64 ((rd_T42 l0 0).f1)] 42 (0, 0)) (zK BK349)) (g := gb350) (o := .cells #[.int .i64 x351000_1, .int .i64 x351001_1] 42 (0, 0)) (zK BK350)) (Bb5 (by repeat (first | (with_reducible first | exact HB.out | apply Bb1 | apply Bb2 | apply Bb3 | refine Bb4 ?_ GE349.out | refine Bb4 ?_ GE350.out) | exact HB.out)))); have n2_ := am (Bk4 (g := gb349) (o := .cells #[.int .i64 ((rd_T42 l0 0).f0), .int .i64 ((rd_T42 l0 0).f1)] 42 (0, 0)) (zK BK349) hb); have n3_ := am (Bk4 (g := gb350) (o := .cells #[.int .i64 x351000_1, .int .i64 x351001_1] 42 (0, 0)) (zK BK350) hb); have n4_ := am (Bb6 (by repeat (first | (with_reducible first | exact HB.out | apply Bb1 | apply Bb2 | apply Bb3 | refine Bb4 ?_ GE349.out | refine Bb4 ?_ GE350.out) | exact HB.out)) hb); clear HO353; clear BK349; clear BK350; clear HB; have HO353 := n0_; have HO356 := n1_; have BK349 := n2_; have BK350 := n3_; have HB := n4_; clear n0_ n1_ n2_ n3_ n4_; clear hb ho35))
    have n0_ := am (Kd.R_drew HO353.out)
    have n1_ := am (Kd.R_drew HO356.out)
    have n2_ := am (Bk3 BK349.out)
    have n3_ := am (Bk3 BK350.out)
    have n4_ := am (Bb3 HB.out)
    clear HO353
    clear HO356
    clear BK349
    clear BK350
    clear HB
    have HO353 := n0_
    have HO356 := n1_
    have BK349 := n2_
    have BK350 := n3_
    have HB := n4_
    clear n0_ n1_ n2_ n3_ n4_
    obtain ⟨Ao37, co37, eo37⟩ := Kd.R_slice HO356.out
    (first | subst eo37 | (injection eo37 with f1_ f2_ f3_; have f4_ := f1_.symm; have f5_ := f3_.symm; clear f1_ f2_ f3_; subst f4_; subst f5_))
    have p357 : 0 ≤ (x6_1 : Int) := zD
    have q357 : x6_1 < (y354.length : Int) := zD
    obtain ⟨ad357, e357, hx357_0, hx357_1⟩ := at_T42 (Kd.R_reads' HO356.out).2.2 x6_1 p357 q357
    cases e357
    replace p357 := eq_true p357
    replace q357 := eq_true q357
    have p358 : 0 ≤ (x6_1 : Int) := zD
    have q358 : x6_1 < (y354.length : Int) := zD
    obtain ⟨ad358, e358, hx358_0, hx358_1⟩ := at_T42 (Kd.R_reads' HO356.out).2.2 x6_1 p358 q358
    obtain rfl : ad357 = ad358 := (by injection e358)
    replace p358 := eq_true p358
    replace q358 := eq_true q358
    refine start_ (n := 18) (S := fun w' => w'.cell? ⟨gb350, 0, none⟩ = some (.int .i64 x351000_1) ∧ w'.cell? ⟨gb350, 1, none⟩ = some (.int .i64 x351001_1) ∧ w'.cell? (ad357.add ((x6_1).toNat * 2)) = some (.int .i64 ((rd_T42 y354 x6_1).f0)) ∧ w'.cell? ⟨(ad357.add ((x6_1).toNat * 2)).block, (ad357.add ((x6_1).toNat * 2)).off + 1, none⟩ = some (.int .i64 ((rd_T42 y354 x6_1).f1)) ∧ w'.cell? (ad357.add ((x6_1).toNat * 2)) = some (.int .i64 ((rd_T42 y354 x6_1).f0)) ∧ w'.cell? ⟨(ad357.add ((x6_1).toNat * 2)).block, (ad357.add ((x6_1).toNat * 2)).off + 1, none⟩ = some (.int .i64 ((rd_T42 y354 x6_1).f1))) (ds := [17]) spec_l23Word.m0 (by kernel_rfl) rfl rfl ⟨(kc BK350.out 0).trans rfl, (kc BK350.out 1).trans rfl, hx357_0, hx357_1, hx358_0, hx358_1⟩ (fun hHeld => ?_); refine with_tabW spec_l23Word.tab7 spec_l23Word.bits7 (fun HT_ HW_ => ?_)
    generalize w34.drew = w36 at HO353 HO356 BK349 BK350 HB hx357_0 hx357_1 hx358_0 hx358_1 hHeld ⊢
    refine pure_ (i := 0) (N := some 26) (v := ?_) (a' := ?_) spec_l23Word.m2 rfl rfl zA (fun _ _ _ h => h) (Or.inl ⟨by rfl, ?_⟩) ?_ ?_
    rotate_left
    ·intro w'
     go_simp
     with_reducible rfl
    rotate_left
    ·exact zP
    refine pure_ (i := 2) (N := some 28) (v := ?_) (a' := ?_) spec_l23Word.m4 rfl rfl zA (fun _ _ _ h => h) (Or.inl ⟨by rfl, ?_⟩) ?_ ?_
    rotate_left
    ·intro w'
     go_simp
     with_reducible rfl
    rotate_left
    ·exact zP
    refine pure_ (i := 3) (N := some 29) (v := ?_) (a' := ?_) spec_l23Word.m5 rfl rfl zA (fun _ _ _ h => h) (Or.inl ⟨by rfl, ?_⟩) ?_ ?_
    rotate_left
    ·intro w'
     go_simp
     with_reducible rfl
    rotate_left
    ·exact zP
    refine pure_ (i := 4) (N := some 30) (v := ?_) (a' := ?_) spec_l23Word.m6 rfl rfl zA (fun _ _ _ h => h) (Or.inl ⟨by rfl, ?_⟩) ?_ ?_
    rotate_left
    ·intro w'
     go_simp
     with_reducible rfl
    rotate_left
    ·exact zP
    refine pure_ (i := 5) (N := some 31) (v := ?_) (a' := ?_) spec_l23Word.m7 rfl rfl zA (fun _ _ _ h => h) (Or.inl ⟨by rfl, ?_⟩) ?_ ?_
    rotate_left
    ·intro w'
     go_simp
     with_reducible rfl
    rotate_left
    ·exact zP
    refine pure_ (i := 8) (N := some 34) (v := ?_) (a' := ?_) spec_l23Word.m8 rfl rfl zA (fun _ _ _ h => h) (Or.inl ⟨by rfl, ?_⟩) ?_ ?_
    rotate_left
    ·intro w'
     go_simp
     with_reducible rfl
    rotate_left
    ·exact zP
    refine pure_ (i := 10) (N := some 36) (v := ?_) (a' := ?_) spec_l23Word.m9 rfl rfl zA (fun _ _ _ h => h) (Or.inl ⟨by rfl, ?_⟩) ?_ ?_
    rotate_left
    ·intro w'
     go_simp
     with_reducible rfl
    rotate_left
    ·exact zP
    refine pure_ (i := 11) (N := some 37) (v := ?_) (a' := ?_) spec_l23Word.m10 rfl rfl zA (fun _ _ _ h => h) (Or.inl ⟨by rfl, ?_⟩) ?_ ?_
    rotate_left
    ·intro w'
     go_simp
     with_reducible rfl
    rotate_left
    ·exact zP
    refine pure_ (i := 12) (N := some 38) (v := ?_) (a' := ?_) spec_l23Word.m11 rfl rfl zA (fun _ _ _ h => h) (Or.inl ⟨by rfl, ?_⟩) ?_ ?_
    rotate_left
    ·intro w'
     go_simp
     with_reducible rfl
    rotate_left
    ·exact zP
    refine pure_ (i := 13) (N := some 39) (v := ?_) (a' := ?_) spec_l23Word.m12 rfl rfl zA (fun _ _ _ h => h) (Or.inl ⟨by rfl, ?_⟩) ?_ ?_
    rotate_left
    ·intro w'
     go_simp
     with_reducible rfl
    rotate_left
    ·exact zP
    refine take_ (i := 1) (N := some 27) (v := ?_) (a' := ?_) spec_l23Word.m20 rfl rfl (take_ofW HT_.out HW_.out (by kernel_rfl)) (fun _ _ _ h => h) (Or.inl ⟨by rfl, ?_⟩) hHeld ?_ ?_
    rotate_left
    ·rintro w' ⟨s0, s1, s2, s3, s4, s5⟩
     go_simp
     with_reducible rfl
    rotate_left
    ·exact zP
    refine take_ (i := 6) (N := some 32) (v := ?_) (a' := ?_) spec_l23Word.m21 rfl rfl (take_ofW HT_.out HW_.out (by kernel_rfl)) (fun _ _ _ h => h) (Or.inl ⟨by rfl, ?_⟩) hHeld ?_ ?_
    rotate_left
    ·rintro w' ⟨s0, s1, s2, s3, s4, s5⟩
     go_simp
     with_reducible rfl
    rotate_left
    ·exact zP
    refine pure_ (i := 7) (N := some 33) (v := ?_) (a' := ?_) spec_l23Word.m23 rfl rfl zA (fun _ _ _ h => h) (Or.inl ⟨by rfl, ?_⟩) ?_ ?_
    rotate_left
    ·intro w'
     go_simp
     with_reducible rfl
    rotate_left
    ·exact zP
    refine take_ (i := 9) (N := some 35) (v := ?_) (a' := ?_) spec_l23Word.m29 rfl rfl (take_ofW HT_.out HW_.out (by kernel_rfl)) (fun _ _ _ h => h) (Or.inl ⟨by rfl, ?_⟩) hHeld ?_ ?_
    rotate_left
    ·rintro w' ⟨s0, s1, s2, s3, s4, s5⟩
     go_simp
     with_reducible rfl
    rotate_left
    ·exact zP
    refine take_ (i := 14) (N := some 40) (v := ?_) (a' := ?_) spec_l23Word.m30 rfl rfl (take_ofW HT_.out HW_.out (by kernel_rfl)) (fun _ _ _ h => h) (Or.inl ⟨by rfl, ?_⟩) hHeld ?_ ?_
    rotate_left
    ·rintro w' ⟨s0, s1, s2, s3, s4, s5⟩
     go_simp
     with_reducible rfl
    rotate_left
    ·exact zP
    refine pure_ (i := 15) (N := some 41) (v := ?_) (a' := ?_) spec_l23Word.m31 rfl rfl zA (fun _ _ _ h => h) (Or.inl ⟨by rfl, ?_⟩) ?_ ?_
    rotate_left
    ·intro w'
     go_simp
     with_reducible rfl
    rotate_left
    ·exact zP
    refine pure_ (i := 16) (N := some 42) (v := ?_) (a' := ?_) spec_l23Word.m32 rfl rfl zA (fun _ _ _ h => h) (Or.inl ⟨by rfl, ?_⟩) ?_ ?_
    rotate_left
    ·intro w'
     go_simp
     with_reducible rfl
    rotate_left
    ·exact zP
    refine last_ (i := 17) (N := none) spec_l23Word.m33 rfl rfl (one_of HT_.out (by kernel_rfl)) (by decide) (fun K hK => ?_)
    have hs38 : w36.cell? ⟨gb350, 0, none⟩ = some (.int .i64 x351000_1) := (kc BK350.out 0).trans rfl
    have hfs38 := kf BK350.out 0
    have hns38_0 := NB349_350.out
    have hms38_0 := NB350_349.out
    have hs39 : w36.cell? ⟨gb350, 1, none⟩ = some (.int .i64 x351001_1) := (kc BK350.out 1).trans rfl
    have hfs39 := kf BK350.out 1
    have hns39_0 := NB349_350.out
    have hms39_0 := NB350_349.out
    refine skip_ (w1 := ?_) (by rfl) rfl ?_ ?_
    rotate_left
    ·go_simp
     rfl
    refine hK.out _ _ ?_
    clear hK K
    refine done_ (done_of HT_.out (by kernel_rfl)) ?_
    have hnb40 := NB350_349.out
    have hnc40 := NB349_350.out
    have hcz41_0 : w36.cell? ⟨gb350, 0, none⟩ = some (.int .i64 x351000_1) := (kc BK350.out 0).trans rfl
    have hcz41_1 : w36.cell? ⟨gb350, 1, none⟩ = some (.int .i64 x351001_1) := (kc BK350.out 1).trans rfl
    have hfz41_0 := kf BK350.out 0
    have hfz41_1 := kf BK350.out 1
    have hcz42_0 : w36.cell? ⟨gb349, 0, none⟩ = some (.int .i64 ((rd_T42 l0 0).f0)) := (kc BK349.out 0).trans rfl
    have hcz42_1 : w36.cell? ⟨gb349, 1, none⟩ = some (.int .i64 ((rd_T42 l0 0).f1)) := (kc BK349.out 1).trans rfl
    have hfz42_0 := kf BK349.out 0
    have hfz42_1 := kf BK349.out 1
    try go_wp2_with (first | ((with_reducible refine gate_dst (N := 68) rfl ?_); refine Kd.R_lit k42 _ 42 ?hg (N := 68) ?hd (xs := ([(⟨wrap64 (x351000_1 + ((rd_T42 y354 x6_1).f0)), wrap64 ((wrap64 (x351001_1 + ((rd_T42 y354 x6_1).f1))) - 1)⟩ : S42), (⟨wrap64 (x351000_1 + ((rd_T42 y354 x6_1).f0)), wrap64 (x351001_1 + ((rd_T42 y354 x6_1).f1))⟩ : S42), (⟨wrap64 ((wrap64 (x351000_1 + ((rd_T42 y354 x6_1).f0))) - 1), wrap64 (x351001_1 + ((rd_T42 y354 x6_1).f1))⟩ : S42), (⟨wrap64 ((wrap64 (x351000_1 + ((rd_T42 y354 x6_1).f0))) - 1), wrap64 ((wrap64 (x351001_1 + ((rd_T42 y354 x6_1).f1))) - 1)⟩ : S42)] : List (S42))) (inner := [.int .i64 (wrap64 (x351000_1 + ((rd_T42 y354 x6_1).f0))), .int .i64 (wrap64 ((wrap64 (x351001_1 + ((rd_T42 y354 x6_1).f1))) - 1)), .int .i64 (wrap64 (x351000_1 + ((rd_T42 y354 x6_1).f0))), .int .i64 (wrap64 (x351001_1 + ((rd_T42 y354 x6_1).f1))), .int .i64 (wrap64 ((wrap64 (x351000_1 + ((rd_T42 y354 x6_1).f0))) - 1)), .int .i64 (wrap64 (x351001_1 + ((rd_T42 y354 x6_1).f1))), .int .i64 (wrap64 ((wrap64 (x351000_1 + ((rd_T42 y354 x6_1).f0))) - 1)), .int .i64 (wrap64 ((wrap64 (x351001_1 + ((rd_T42 y354 x6_1).f1))) - 1))]) (ok := fun _ => True) (okp := fun _ => True) ?hr ?hp (fun _ hk => hk) trivial (Below.refl _ _) (Nat.le_refl _) (by simp) ?_; (case hd => rfl); (case hg => rfl); (case hr => first | (go_simp; done) | (go_simp; rfl)); (case hp => exact (Reps.c2 (show Kd.M k42 _ _ _ (⟨wrap64 (x351000_1 + ((rd_T42 y354 x6_1).f0)), wrap64 ((wrap64 (x351001_1 + ((rd_T42 y354 x6_1).f1))) - 1)⟩ : S42) [.int .i64 (wrap64 (x351000_1 + ((rd_T42 y354 x6_1).f0))), .int .i64 (wrap64 ((wrap64 (x351001_1 + ((rd_T42 y354 x6_1).f1))) - 1))] from (k42_mkM _ _ _ (⟨wrap64 (x351000_1 + ((rd_T42 y354 x6_1).f0)), wrap64 ((wrap64 (x351001_1 + ((rd_T42 y354 x6_1).f1))) - 1)⟩ : S42) )) (Reps.c2 (show Kd.M k42 _ _ _ (⟨wrap64 (x351000_1 + ((rd_T42 y354 x6_1).f0)), wrap64 (x351001_1 + ((rd_T42 y354 x6_1).f1))⟩ : S42) [.int .i64 (wrap64 (x351000_1 + ((rd_T42 y354 x6_1).f0))), .int .i64 (wrap64 (x351001_1 + ((rd_T42 y354 x6_1).f1)))] from (k42_mkM _ _ _ (⟨wrap64 (x351000_1 + ((rd_T42 y354 x6_1).f0)), wrap64 (x351001_1 + ((rd_T42 y354 x6_1).f1))⟩ : S42) )) (Reps.c2 (show Kd.M k42 _ _ _ (⟨wrap64 ((wrap64 (x351000_1 + ((rd_T42 y354 x6_1).f0))) - 1), wrap64 (x351001_1 + ((rd_T42 y354 x6_1).f1))⟩ : S42) [.int .i64 (wrap64 ((wrap64 (x351000_1 + ((rd_T42 y354 x6_1).f0))) - 1)), .int .i64 (wrap64 (x351001_1 + ((rd_T42 y354 x6_1).f1)))] from (k42_mkM _ _ _ (⟨wrap64 ((wrap64 (x351000_1 + ((rd_T42 y354 x6_1).f0))) - 1), wrap64 (x351001_1 + ((rd_T42 y354 x6_1).f1))⟩ : S42) )) (Reps.c2 (show Kd.M k42 _ _ _ (⟨wrap64 ((wrap64 (x351000_1 + ((rd_T42 y354 x6_1).f0))) - 1), wrap64 ((wrap64 (x351001_1 + ((rd_T42 y354 x6_1).f1))) - 1)⟩ : S42) [.int .i64 (wrap64 ((wrap64 (x351000_1 + ((rd_T42 y354 x6_1).f0))) - 1)), .int .i64 (wrap64 ((wrap64 (x351001_1 + ((rd_T42 y354 x6_1).f1))) - 1))] from (k42_mkM _ _ _ (⟨wrap64 ((wrap64 (x351000_1 + ((rd_T42 y354 x6_1).f0))) - 1), wrap64 ((wrap64 (x351001_1 + ((rd_T42 y354 x6_1).f1))) - 1)⟩ : S42) )) (Reps.none _ _)))))); intro v360 w43 ho44 hb hg_ hnew_; clear hg_ hnew_; (first | rw [← Ny359.out] at ho44 | (simp only [Int.reduceToNat] at ho44; rw [← Ny359.out] at ho44)); have n0_ := am (Kd.R_below (by (with_reducible repeat (first | apply Kd.R_alloc | apply Kd.R_drewN | apply Kd.R_drew)); exact (Kd.R_mono (Kd.R_far (p := ⟨gb350, 1, none⟩) (Kd.R_far (p := ⟨gb350, 0, none⟩) (Kd.R_types HO353.out BK350.out (by decide)) (fun _ hk => hk.2) (.int .i64 (wrap64 (x351000_1 + ((rd_T42 y354 x6_1).f0))))) (fun _ hk => hk.2) (.int .i64 (wrap64 (x351001_1 + ((rd_T42 y354 x6_1).f1))))) (fun _ h_ => h_.1))) hb); have n1_ := am (Kd.R_elder' (by (with_reducible repeat (first | apply Kd.R_alloc | apply Kd.R_drewN | apply Kd.R_drew)); exact (Kd.R_mono (Kd.R_far (p := ⟨gb350, 1, none⟩) (Kd.R_far (p := ⟨gb350, 0, none⟩) (Kd.R_mono HO356.out (fun k_ hk => (⟨hk, hk.2⟩ : _ ∧ k_ ≠ gb350))) (fun _ hk => hk.2) (.int .i64 (wrap64 (x351000_1 + ((rd_T42 y354 x6_1).f0))))) (fun _ hk => hk.2) (.int .i64 (wrap64 (x351001_1 + ((rd_T42 y354 x6_1).f1))))) (fun _ h_ => h_.1))) (Kd.R_base ho44) hb); have n2_ := am (Kd.R_lower (Kd.R_newB (Kd.R_newB (Kd.R_new' ho44 (Kd.R_lt (by (with_reducible repeat (first | apply Kd.R_alloc | apply Kd.R_drewN | apply Kd.R_drew)); exact (Kd.R_mono (Kd.R_far (p := ⟨gb350, 1, none⟩) (Kd.R_far (p := ⟨gb350, 0, none⟩) (Kd.R_mono HO356.out (fun k_ hk => (⟨hk, hk.2⟩ : _ ∧ k_ ≠ gb350))) (fun _ hk => hk.2) (.int .i64 (wrap64 (x351000_1 + ((rd_T42 y354 x6_1).f0))))) (fun _ hk => hk.2) (.int .i64 (wrap64 (x351001_1 + ((rd_T42 y354 x6_1).f1))))) (fun _ h_ => h_.1))))) (g := gb349) (o := .cells #[.int .i64 ((rd_T42 l0 0).f0), .int .i64 ((rd_T42 l0 0).f1)] 42 (0, 0)) (by (with_reducible repeat (first | refine Bk2 ?_ _ | refine Bk3 ?_ | refine Bk1 ?_ _)); refine blk_far ?_ NB349_350.out _; (with_reducible repeat (first | refine Bk2 ?_ _ | refine Bk3 ?_ | refine Bk1 ?_ _)); refine blk_far ?_ NB349_350.out _; (with_reducible repeat (first | refine Bk2 ?_ _ | refine Bk3 ?_ | refine Bk1 ?_ _)); exact BK349.out)) (g := gb350) (o := .cells #[.int .i64 (wrap64 (x351000_1 + ((rd_T42 y354 x6_1).f0))), .int .i64 (wrap64 (x351001_1 + ((rd_T42 y354 x6_1).f1)))] 42 (0, 0)) (by (with_reducible repeat (first | refine Bk2 ?_ _ | refine Bk3 ?_ | refine Bk1 ?_ _)); refine blk_put (cs := #[.int .i64 (wrap64 (x351000_1 + ((rd_T42 y354 x6_1).f0))), .int .i64 x351001_1]) ?_ 1 _ rfl; (with_reducible repeat (first | refine Bk2 ?_ _ | refine Bk3 ?_ | refine Bk1 ?_ _)); refine blk_put (cs := #[.int .i64 x351000_1, .int .i64 x351001_1]) ?_ 0 _ rfl; (with_reducible repeat (first | refine Bk2 ?_ _ | refine Bk3 ?_ | refine Bk1 ?_ _)); exact BK350.out)) (Bb5 (by repeat (first | (with_reducible first | exact HB.out | apply Bb1 | apply Bb2 | apply Bb3 | refine Bb4 ?_ GE349.out | refine Bb4 ?_ GE350.out) | exact HB.out)))); have n3_ := am (Bk4 (g := gb349) (o := .cells #[.int .i64 ((rd_T42 l0 0).f0), .int .i64 ((rd_T42 l0 0).f1)] 42 (0, 0)) (by (with_reducible repeat (first | refine Bk2 ?_ _ | refine Bk3 ?_ | refine Bk1 ?_ _)); refine blk_far ?_ NB349_350.out _; (with_reducible repeat (first | refine Bk2 ?_ _ | refine Bk3 ?_ | refine Bk1 ?_ _)); refine blk_far ?_ NB349_350.out _; (with_reducible repeat (first | refine Bk2 ?_ _ | refine Bk3 ?_ | refine Bk1 ?_ _)); exact BK349.out) hb); have n4_ := am (Bk4 (g := gb350) (o := .cells #[.int .i64 (wrap64 (x351000_1 + ((rd_T42 y354 x6_1).f0))), .int .i64 (wrap64 (x351001_1 + ((rd_T42 y354 x6_1).f1)))] 42 (0, 0)) (by (with_reducible repeat (first | refine Bk2 ?_ _ | refine Bk3 ?_ | refine Bk1 ?_ _)); refine blk_put (cs := #[.int .i64 (wrap64 (x351000_1 + ((rd_T42 y354 x6_1).f0))), .int .i64 x351001_1]) ?_ 1 _ rfl; (with_reducible repeat (first | refine Bk2 ?_ _ | refine Bk3 ?_ | refine Bk1 ?_ _)); refine blk_put (cs := #[.int .i64 x351000_1, .int .i64 x351001_1]) ?_ 0 _ rfl; (with_reducible repeat (first | refine Bk2 ?_ _ | refine Bk3 ?_ | refine Bk1 ?_ _)); exact BK350.out) hb); have n5_ := am (Bb6 (by repeat (first | (with_reducible first | exact HB.out | apply Bb1 | apply Bb2 | apply Bb3 | refine Bb4 ?_ GE349.out | refine Bb4 ?_ GE350.out) | exact HB.out)) hb); clear HO353; clear HO356; clear BK349; clear BK350; clear HB; have HO353 := n0_; have HO356 := n1_; have HO361 := n2_; have BK349 := n3_; have BK350 := n4_; have HB := n5_; clear n0_ n1_ n2_ n3_ n4_ n5_; clear hb ho44))
    have n0_ := am (Kd.R_drew HO353.out)
    have n1_ := am (Kd.R_drew HO356.out)
    have n2_ := am (Kd.R_drew HO361.out)
    have n3_ := am (Bk3 BK349.out)
    have n4_ := am (Bk3 BK350.out)
    have n5_ := am (Bb3 HB.out)
    clear HO353
    clear HO356
    clear HO361
    clear BK349
    clear BK350
    clear HB
    have HO353 := n0_
    have HO356 := n1_
    have HO361 := n2_
    have BK349 := n3_
    have BK350 := n4_
    have HB := n5_
    clear n0_ n1_ n2_ n3_ n4_ n5_
    obtain ⟨Ao46, co46, eo46⟩ := Kd.R_slice HO361.out
    (first | subst eo46 | (injection eo46 with f1_ f2_ f3_; have f4_ := f1_.symm; have f5_ := f3_.symm; clear f1_ f2_ f3_; subst f4_; subst f5_))
    have p362 : 0 ≤ (x6_1 : Int) := zD
    have q362 : x6_1 < (y359.length : Int) := zD
    obtain ⟨ad362, e362, hx362_0, hx362_1⟩ := at_T42 (Kd.R_reads' HO361.out).2.2 x6_1 p362 q362
    cases e362
    replace p362 := eq_true p362
    replace q362 := eq_true q362
    have p363 : 0 ≤ ((ji28) : Int) := zD
    have q363 : (ji28) < (y359.length : Int) := zD
    obtain ⟨ad363, e363, hx363_0, hx363_1⟩ := at_T42 (Kd.R_reads' HO361.out).2.2 (ji28) p363 q363
    obtain rfl : ad362 = ad363 := (by injection e363)
    replace p363 := eq_true p363
    replace q363 := eq_true q363
    refine start_ (n := 14) (S := fun w' => w'.cell? (ad362.add ((x6_1).toNat * 2)) = some (.int .i64 ((rd_T42 y359 x6_1).f0)) ∧ w'.cell? ⟨(ad362.add ((x6_1).toNat * 2)).block, (ad362.add ((x6_1).toNat * 2)).off + 1, none⟩ = some (.int .i64 ((rd_T42 y359 x6_1).f1)) ∧ w'.cell? (ad362.add (((ji28)).toNat * 2)) = some (.int .i64 ((rd_T42 y359 (ji28)).f0)) ∧ w'.cell? ⟨(ad362.add (((ji28)).toNat * 2)).block, (ad362.add (((ji28)).toNat * 2)).off + 1, none⟩ = some (.int .i64 ((rd_T42 y359 (ji28)).f1))) (ds := []) spec_l23Word.m1 (by kernel_rfl) rfl rfl ⟨hx362_0, hx362_1, hx363_0, hx363_1⟩ (fun hHeld => ?_); refine with_tabW spec_l23Word.tab11 spec_l23Word.bits11 (fun HT_ HW_ => ?_)
    generalize w43.drew = w45 at HO353 HO356 HO361 BK349 BK350 HB hx362_0 hx362_1 hx363_0 hx363_1 hHeld ⊢
    refine pure_ (i := 0) (N := some 69) (v := ?_) (a' := ?_) spec_l23Word.m3 rfl rfl zA (fun _ _ _ h => h) (Or.inl ⟨by rfl, ?_⟩) ?_ ?_
    rotate_left
    ·intro w'
     go_simp
     with_reducible rfl
    rotate_left
    ·exact zP
    refine pure_ (i := 1) (N := some 70) (v := ?_) (a' := ?_) spec_l23Word.m13 rfl rfl zA (fun _ _ _ h => h) (Or.inl ⟨by rfl, ?_⟩) ?_ ?_
    rotate_left
    ·intro w'
     go_simp
     with_reducible rfl
    rotate_left
    ·exact zP
    refine pure_ (i := 2) (N := some 71) (v := ?_) (a' := ?_) spec_l23Word.m14 rfl rfl zA (fun _ _ _ h => h) (Or.inl ⟨by rfl, ?_⟩) ?_ ?_
    rotate_left
    ·intro w'
     go_simp
     with_reducible rfl
    rotate_left
    ·exact zP
    refine pure_ (i := 4) (N := some 73) (v := ?_) (a' := ?_) spec_l23Word.m15 rfl rfl zA (fun _ _ _ h => h) (Or.inl ⟨by rfl, ?_⟩) ?_ ?_
    rotate_left
    ·intro w'
     go_simp
     with_reducible rfl
    rotate_left
    ·exact zP
    refine pure_ (i := 5) (N := some 74) (v := ?_) (a' := ?_) spec_l23Word.m16 rfl rfl zA (fun _ _ _ h => h) (Or.inl ⟨by rfl, ?_⟩) ?_ ?_
    rotate_left
    ·intro w'
     go_simp
     with_reducible rfl
    rotate_left
    ·exact zP
    refine pure_ (i := 6) (N := some 75) (v := ?_) (a' := ?_) spec_l23Word.m17 rfl rfl zA (fun _ _ _ h => h) (Or.inl ⟨by rfl, ?_⟩) ?_ ?_
    rotate_left
    ·intro w'
     go_simp
     with_reducible rfl
    rotate_left
    ·exact zP
    refine pure_ (i := 7) (N := some 76) (v := ?_) (a' := ?_) spec_l23Word.m18 rfl rfl zA (fun _ _ _ h => h) (Or.inl ⟨by rfl, ?_⟩) ?_ ?_
    rotate_left
    ·intro w'
     go_simp
     with_reducible rfl
    rotate_left
    ·exact zP
    refine pure_ (i := 8) (N := some 77) (v := ?_) (a' := ?_) spec_l23Word.m19 rfl rfl zA (fun _ _ _ h => h) (Or.inl ⟨by rfl, ?_⟩) ?_ ?_
    rotate_left
    ·intro w'
     go_simp
     with_reducible rfl
    rotate_left
    ·exact zP
    refine take_ (i := 3) (N := some 72) (v := ?_) (a' := ?_) spec_l23Word.m22 rfl rfl (take_ofW HT_.out HW_.out (by kernel_rfl)) (fun _ _ _ h => h) (Or.inl ⟨by rfl, ?_⟩) hHeld ?_ ?_
    rotate_left
    ·rintro w' ⟨s0, s1, s2, s3⟩
     go_simp
     with_reducible rfl
    rotate_left
    ·exact zP
    refine take_ (i := 9) (N := some 78) (v := ?_) (a' := ?_) spec_l23Word.m24 rfl rfl (take_ofW HT_.out HW_.out (by kernel_rfl)) (fun _ _ _ h => h) (Or.inl ⟨by rfl, ?_⟩) hHeld ?_ ?_
    rotate_left
    ·rintro w' ⟨s0, s1, s2, s3⟩
     go_simp
     with_reducible rfl
    rotate_left
    ·exact zP
    refine join_ (σ := Nat × Nat) 2 spec_l23Word.m27 (fun s_ => [(9, .pointer (some ⟨s_.1, 0, none⟩)), (10, .pointer (some ⟨s_.2, 0, none⟩))]) (fun s_ w' => (w'.cell? (ad362.add ((x6_1).toNat * 2)) = some (.int .i64 ((rd_T42 y359 x6_1).f0)) ∧ w'.cell? ⟨(ad362.add ((x6_1).toNat * 2)).block, (ad362.add ((x6_1).toNat * 2)).off + 1, none⟩ = some (.int .i64 ((rd_T42 y359 x6_1).f1)) ∧ w'.cell? (ad362.add (((ji28)).toNat * 2)) = some (.int .i64 ((rd_T42 y359 (ji28)).f0)) ∧ w'.cell? ⟨(ad362.add (((ji28)).toNat * 2)).block, (ad362.add (((ji28)).toNat * 2)).off + 1, none⟩ = some (.int .i64 ((rd_T42 y359 (ji28)).f1))) ∧ (Kd.R (Kd.int .u8) 5 w' w.heap.size (fun _ => True) v352 y351) ∧ (Kd.R k42 42 w' w.heap.size (fun k_ => some k_ ≠ (.slice (some ad362) y359.length co46 : Value).ownBlock ∧ k_ ≠ gb349 ∧ k_ ≠ gb350 ∧ k_ ≠ s_.1 ∧ k_ ≠ s_.2) (.slice (some ad357) y354.length co37) y354) ∧ (Kd.R k42 42 w' w.heap.size (fun k_ => some k_ ≠ (.slice (some ad357) y354.length co37 : Value).ownBlock ∧ k_ ≠ gb349 ∧ k_ ≠ gb350 ∧ k_ ≠ s_.1 ∧ k_ ≠ s_.2) (.slice (some ad362) y359.length co46) y359) ∧ (w'.heap[gb349]? = some (.cells #[.int .i64 ((rd_T42 l0 0).f0), .int .i64 ((rd_T42 l0 0).f1)] 42 (0, 0))) ∧ (w'.heap[gb350]? = some (.cells #[.int .i64 (wrap64 (x351000_1 + ((rd_T42 y354 x6_1).f0))), .int .i64 (wrap64 (x351001_1 + ((rd_T42 y354 x6_1).f1)))] 42 (0, 0))) ∧ (w'.heap[s_.1]? = some (.cells #[.int .i64 0, .int .i64 0] 42 (0, 0))) ∧ (w'.heap[s_.2]? = some (.cells #[.int .i64 0, .int .i64 0] 42 (0, 0))) ∧ (w.heap.size ≤ s_.1) ∧ (w.heap.size ≤ s_.1) ∧ (gb349 ≠ s_.1) ∧ (s_.1 ≠ gb349) ∧ (gb350 ≠ s_.1) ∧ (s_.1 ≠ gb350) ∧ (s_.2 ≠ s_.1) ∧ (s_.1 ≠ s_.2) ∧ (w.heap.size ≤ s_.2) ∧ (w.heap.size ≤ s_.2) ∧ (gb349 ≠ s_.2) ∧ (s_.2 ≠ gb349) ∧ (gb350 ≠ s_.2) ∧ (s_.2 ≠ gb350) ∧ (Below w.heap.size w w')) ?_ ?_
    rotate_left
    ·intro hCont
     refine two_ (i := 10) (j := 11) (Ni := some 9) (Nj := some 10) spec_l23Word.m26 spec_l23Word.m25 rfl rfl rfl rfl (two_of HT_.out (by kernel_rfl)) (by decide) (by decide) (fun K hK => ?_) (fun K hK => ?_)
     ·skip
      refine box_step ?hg (N := 9) ?hd (cs := #[.int .i64 0, .int .i64 0]) (t := 42) ?hr ?_; (case hd => rfl); (case hg => rfl); (case hr => first | (go_simp; done) | (go_simp; rfl))
      intro gb364 hg w47 hbox hb
      have HS0_ := (hb.cell (World.block_lt_of_cell? _ _ (hHeld.1))).trans (hHeld.1)
      have HS1_ := (hb.cell (World.block_lt_of_cell? _ _ (hHeld.2.1))).trans (hHeld.2.1)
      have HS2_ := (hb.cell (World.block_lt_of_cell? _ _ (hHeld.2.2.1))).trans (hHeld.2.2.1)
      have HS3_ := (hb.cell (World.block_lt_of_cell? _ _ (hHeld.2.2.2))).trans (hHeld.2.2.2)
      have n0_ := am (Kd.R_below (zR HO353) hb)
      have n1_ := am (Kd.R_below (Kd.R_elderB (zR HO356) gb364 (Nat.le_of_eq hg.symm)) hb)
      have n2_ := am (Kd.R_below (Kd.R_elderB (zR HO361) gb364 (Nat.le_of_eq hg.symm)) hb)
      have n3_ := am (Bk4 (g := gb349) (o := .cells #[.int .i64 ((rd_T42 l0 0).f0), .int .i64 ((rd_T42 l0 0).f1)] 42 (0, 0)) (zK BK349) hb)
      have n4_ := am (Bk4 (g := gb350) (o := .cells #[.int .i64 (wrap64 (x351000_1 + ((rd_T42 y354 x6_1).f0))), .int .i64 (wrap64 (x351001_1 + ((rd_T42 y354 x6_1).f1)))] 42 (0, 0)) (zK BK350) hb)
      have n5_ := am (Bb6 (by repeat (first | (with_reducible first | exact HB.out | apply Bb1 | apply Bb2 | apply Bb3 | refine Bb4 ?_ GE349.out | refine Bb4 ?_ GE350.out) | exact HB.out)) hb)
      have n6_ := am (hbox)
      have n7_ := am ((by rw [hg]; exact (Bb5 (by repeat (first | (with_reducible first | exact HB.out | apply Bb1 | apply Bb2 | apply Bb3 | refine Bb4 ?_ GE349.out | refine Bb4 ?_ GE350.out) | exact HB.out))) : w.heap.size ≤ gb364))
      have n8_ := am ((by rw [hg]; exact (Bb5 (by repeat (first | (with_reducible first | exact HB.out | apply Bb1 | apply Bb2 | apply Bb3 | refine Bb4 ?_ GE349.out | refine Bb4 ?_ GE350.out) | exact HB.out))) : w.heap.size ≤ gb364))
      have n9_ := am ((by rw [hg]; exact nl (Bk5 (g := gb349) (o := .cells #[.int .i64 ((rd_T42 l0 0).f0), .int .i64 ((rd_T42 l0 0).f1)] 42 (0, 0)) (zK BK349)) : gb349 ≠ gb364))
      have n10_ := am ((by rw [hg]; exact ng (Bk5 (g := gb349) (o := .cells #[.int .i64 ((rd_T42 l0 0).f0), .int .i64 ((rd_T42 l0 0).f1)] 42 (0, 0)) (zK BK349)) : gb364 ≠ gb349))
      have n11_ := am ((by rw [hg]; exact nl (Bk5 (g := gb350) (o := .cells #[.int .i64 (wrap64 (x351000_1 + ((rd_T42 y354 x6_1).f0))), .int .i64 (wrap64 (x351001_1 + ((rd_T42 y354 x6_1).f1)))] 42 (0, 0)) (zK BK350)) : gb350 ≠ gb364))
      have n12_ := am ((by rw [hg]; exact ng (Bk5 (g := gb350) (o := .cells #[.int .i64 (wrap64 (x351000_1 + ((rd_T42 y354 x6_1).f0))), .int .i64 (wrap64 (x351001_1 + ((rd_T42 y354 x6_1).f1)))] 42 (0, 0)) (zK BK350)) : gb364 ≠ gb350))
      clear HO353
      clear HO356
      clear HO361
      clear BK349
      clear BK350
      clear HB
      have HO353 := n0_
      have HO356 := n1_
      have HO361 := n2_
      have BK349 := n3_
      have BK350 := n4_
      have HB := n5_
      have BK364 := n6_
      have GW364 := n7_
      have GE364 := n8_
      have NB349_364 := n9_
      have NB364_349 := n10_
      have NB350_364 := n11_
      have NB364_350 := n12_
      clear n0_ n1_ n2_ n3_ n4_ n5_ n6_ n7_ n8_ n9_ n10_ n11_ n12_
      clear hb hbox hg
      refine hK.out _ _ ⟨HS0_, HS1_, HS2_, HS3_⟩ (fun hHeld => ?_)
      clear hK K
      refine norm_ (a' := ?_) ?_ ?_
      rotate_left
      ·show Act.put _ (some 9) _ = _
       simp only [Act.put, sa, i64_w, i32_w]
       rfl
      refine one_ (i := 11) (N := some 10) spec_l23Word.m27 rfl rfl (one_of HT_.out (by kernel_rfl)) (by decide) (fun K hK => ?_)
      refine box_step ?hg (N := 10) ?hd (cs := #[.int .i64 0, .int .i64 0]) (t := 42) ?hr ?_; (case hd => rfl); (case hg => rfl); (case hr => first | (go_simp; done) | (go_simp; rfl))
      intro gb365 hg w48 hbox hb
      have HS0_ := (hb.cell (World.block_lt_of_cell? _ _ (hHeld.1))).trans (hHeld.1)
      have HS1_ := (hb.cell (World.block_lt_of_cell? _ _ (hHeld.2.1))).trans (hHeld.2.1)
      have HS2_ := (hb.cell (World.block_lt_of_cell? _ _ (hHeld.2.2.1))).trans (hHeld.2.2.1)
      have HS3_ := (hb.cell (World.block_lt_of_cell? _ _ (hHeld.2.2.2))).trans (hHeld.2.2.2)
      have n0_ := am (Kd.R_below (zR HO353) hb)
      have n1_ := am (Kd.R_below (Kd.R_elderB (zR HO356) gb365 (Nat.le_of_eq hg.symm)) hb)
      have n2_ := am (Kd.R_below (Kd.R_elderB (zR HO361) gb365 (Nat.le_of_eq hg.symm)) hb)
      have n3_ := am (Bk4 (g := gb349) (o := .cells #[.int .i64 ((rd_T42 l0 0).f0), .int .i64 ((rd_T42 l0 0).f1)] 42 (0, 0)) (zK BK349) hb)
      have n4_ := am (Bk4 (g := gb350) (o := .cells #[.int .i64 (wrap64 (x351000_1 + ((rd_T42 y354 x6_1).f0))), .int .i64 (wrap64 (x351001_1 + ((rd_T42 y354 x6_1).f1)))] 42 (0, 0)) (zK BK350) hb)
      have n5_ := am (Bk4 (g := gb364) (o := .cells #[.int .i64 0, .int .i64 0] 42 (0, 0)) (zK BK364) hb)
      have n6_ := am (Bb6 (by repeat (first | (with_reducible first | exact HB.out | apply Bb1 | apply Bb2 | apply Bb3 | refine Bb4 ?_ GE349.out | refine Bb4 ?_ GE350.out | refine Bb4 ?_ GE364.out) | exact HB.out)) hb)
      have n7_ := am (hbox)
      have n8_ := am ((by rw [hg]; exact (Bb5 (by repeat (first | (with_reducible first | exact HB.out | apply Bb1 | apply Bb2 | apply Bb3 | refine Bb4 ?_ GE349.out | refine Bb4 ?_ GE350.out | refine Bb4 ?_ GE364.out) | exact HB.out))) : w.heap.size ≤ gb365))
      have n9_ := am ((by rw [hg]; exact (Bb5 (by repeat (first | (with_reducible first | exact HB.out | apply Bb1 | apply Bb2 | apply Bb3 | refine Bb4 ?_ GE349.out | refine Bb4 ?_ GE350.out | refine Bb4 ?_ GE364.out) | exact HB.out))) : w.heap.size ≤ gb365))
      have n10_ := am ((by rw [hg]; exact nl (Bk5 (g := gb349) (o := .cells #[.int .i64 ((rd_T42 l0 0).f0), .int .i64 ((rd_T42 l0 0).f1)] 42 (0, 0)) (zK BK349)) : gb349 ≠ gb365))
      have n11_ := am ((by rw [hg]; exact ng (Bk5 (g := gb349) (o := .cells #[.int .i64 ((rd_T42 l0 0).f0), .int .i64 ((rd_T42 l0 0).f1)] 42 (0, 0)) (zK BK349)) : gb365 ≠ gb349))
      have n12_ := am ((by rw [hg]; exact nl (Bk5 (g := gb350) (o := .cells #[.int .i64 (wrap64 (x351000_1 + ((rd_T42 y354 x6_1).f0))), .int .i64 (wrap64 (x351001_1 + ((rd_T42 y354 x6_1).f1)))] 42 (0, 0)) (zK BK350)) : gb350 ≠ gb365))
      have n13_ := am ((by rw [hg]; exact ng (Bk5 (g := gb350) (o := .cells #[.int .i64 (wrap64 (x351000_1 + ((rd_T42 y354 x6_1).f0))), .int .i64 (wrap64 (x351001_1 + ((rd_T42 y354 x6_1).f1)))] 42 (0, 0)) (zK BK350)) : gb365 ≠ gb350))
      have n14_ := am ((by rw [hg]; exact nl (Bk5 (g := gb364) (o := .cells #[.int .i64 0, .int .i64 0] 42 (0, 0)) (zK BK364)) : gb364 ≠ gb365))
      have n15_ := am ((by rw [hg]; exact ng (Bk5 (g := gb364) (o := .cells #[.int .i64 0, .int .i64 0] 42 (0, 0)) (zK BK364)) : gb365 ≠ gb364))
      clear HO353
      clear HO356
      clear HO361
      clear BK349
      clear BK350
      clear BK364
      clear HB
      have HO353 := n0_
      have HO356 := n1_
      have HO361 := n2_
      have BK349 := n3_
      have BK350 := n4_
      have BK364 := n5_
      have HB := n6_
      have BK365 := n7_
      have GW365 := n8_
      have GE365 := n9_
      have NB349_365 := n10_
      have NB365_349 := n11_
      have NB350_365 := n12_
      have NB365_350 := n13_
      have NB364_365 := n14_
      have NB365_364 := n15_
      clear n0_ n1_ n2_ n3_ n4_ n5_ n6_ n7_ n8_ n9_ n10_ n11_ n12_ n13_ n14_ n15_
      clear hb hbox hg
      refine hK.out _ _ ⟨HS0_, HS1_, HS2_, HS3_⟩ (fun hHeld => ?_)
      clear hK K
      refine norm_ (a' := ?_) ?_ ?_
      rotate_left
      ·show Act.put _ (some 10) _ = _
       simp only [Act.put, sa, i64_w, i32_w]
       rfl
      exact norm_ (by simp only [putAll, Act.put, sa]) (hCont (gb364, gb365) _ ⟨hHeld, (zR HO353), (by (with_reducible repeat (first | apply Kd.R_alloc | apply Kd.R_drewN | apply Kd.R_drew)); exact Kd.R_mono HO356.out (fun _ hk => ⟨hk.1.1.2, ⟨hk.1.1.1.1.2, ⟨hk.1.1.1.2, ⟨hk.1.2, hk.2⟩⟩⟩⟩)), (by (with_reducible repeat (first | apply Kd.R_alloc | apply Kd.R_drewN | apply Kd.R_drew)); exact Kd.R_mono HO361.out (fun _ hk => ⟨hk.1.1.1.1.2, ⟨hk.1.1.1.2, ⟨hk.1.1.2, ⟨hk.1.2, hk.2⟩⟩⟩⟩)), (zK BK349), (zK BK350), (zK BK364), (zK BK365), GW364.out, GE364.out, NB349_364.out, NB364_349.out, NB350_364.out, NB364_350.out, NB365_364.out, NB364_365.out, GW365.out, GE365.out, NB349_365.out, NB365_349.out, NB350_365.out, NB365_350.out, (by repeat (first | (with_reducible first | exact HB.out | apply Bb1 | apply Bb2 | apply Bb3 | refine Bb4 ?_ GE349.out | refine Bb4 ?_ GE350.out | refine Bb4 ?_ GE364.out | refine Bb4 ?_ GE365.out) | exact HB.out))⟩)
     skip
     refine box_step ?hg (N := 10) ?hd (cs := #[.int .i64 0, .int .i64 0]) (t := 42) ?hr ?_; (case hd => rfl); (case hg => rfl); (case hr => first | (go_simp; done) | (go_simp; rfl))
     intro gb365 hg w47 hbox hb
     have HS0_ := (hb.cell (World.block_lt_of_cell? _ _ (hHeld.1))).trans (hHeld.1)
     have HS1_ := (hb.cell (World.block_lt_of_cell? _ _ (hHeld.2.1))).trans (hHeld.2.1)
     have HS2_ := (hb.cell (World.block_lt_of_cell? _ _ (hHeld.2.2.1))).trans (hHeld.2.2.1)
     have HS3_ := (hb.cell (World.block_lt_of_cell? _ _ (hHeld.2.2.2))).trans (hHeld.2.2.2)
     have n0_ := am (Kd.R_below (zR HO353) hb)
     have n1_ := am (Kd.R_below (Kd.R_elderB (zR HO356) gb365 (Nat.le_of_eq hg.symm)) hb)
     have n2_ := am (Kd.R_below (Kd.R_elderB (zR HO361) gb365 (Nat.le_of_eq hg.symm)) hb)
     have n3_ := am (Bk4 (g := gb349) (o := .cells #[.int .i64 ((rd_T42 l0 0).f0), .int .i64 ((rd_T42 l0 0).f1)] 42 (0, 0)) (zK BK349) hb)
     have n4_ := am (Bk4 (g := gb350) (o := .cells #[.int .i64 (wrap64 (x351000_1 + ((rd_T42 y354 x6_1).f0))), .int .i64 (wrap64 (x351001_1 + ((rd_T42 y354 x6_1).f1)))] 42 (0, 0)) (zK BK350) hb)
     have n5_ := am (Bb6 (by repeat (first | (with_reducible first | exact HB.out | apply Bb1 | apply Bb2 | apply Bb3 | refine Bb4 ?_ GE349.out | refine Bb4 ?_ GE350.out) | exact HB.out)) hb)
     have n6_ := am (hbox)
     have n7_ := am ((by rw [hg]; exact (Bb5 (by repeat (first | (with_reducible first | exact HB.out | apply Bb1 | apply Bb2 | apply Bb3 | refine Bb4 ?_ GE349.out | refine Bb4 ?_ GE350.out) | exact HB.out))) : w.heap.size ≤ gb365))
     have n8_ := am ((by rw [hg]; exact (Bb5 (by repeat (first | (with_reducible first | exact HB.out | apply Bb1 | apply Bb2 | apply Bb3 | refine Bb4 ?_ GE349.out | refine Bb4 ?_ GE350.out) | exact HB.out))) : w.heap.size ≤ gb365))
     have n9_ := am ((by rw [hg]; exact nl (Bk5 (g := gb349) (o := .cells #[.int .i64 ((rd_T42 l0 0).f0), .int .i64 ((rd_T42 l0 0).f1)] 42 (0, 0)) (zK BK349)) : gb349 ≠ gb365))
     have n10_ := am ((by rw [hg]; exact ng (Bk5 (g := gb349) (o := .cells #[.int .i64 ((rd_T42 l0 0).f0), .int .i64 ((rd_T42 l0 0).f1)] 42 (0, 0)) (zK BK349)) : gb365 ≠ gb349))
     have n11_ := am ((by rw [hg]; exact nl (Bk5 (g := gb350) (o := .cells #[.int .i64 (wrap64 (x351000_1 + ((rd_T42 y354 x6_1).f0))), .int .i64 (wrap64 (x351001_1 + ((rd_T42 y354 x6_1).f1)))] 42 (0, 0)) (zK BK350)) : gb350 ≠ gb365))
     have n12_ := am ((by rw [hg]; exact ng (Bk5 (g := gb350) (o := .cells #[.int .i64 (wrap64 (x351000_1 + ((rd_T42 y354 x6_1).f0))), .int .i64 (wrap64 (x351001_1 + ((rd_T42 y354 x6_1).f1)))] 42 (0, 0)) (zK BK350)) : gb365 ≠ gb350))
     clear HO353
     clear HO356
     clear HO361
     clear BK349
     clear BK350
     clear HB
     have HO353 := n0_
     have HO356 := n1_
     have HO361 := n2_
     have BK349 := n3_
     have BK350 := n4_
     have HB := n5_
     have BK365 := n6_
     have GW365 := n7_
     have GE365 := n8_
     have NB349_365 := n9_
     have NB365_349 := n10_
     have NB350_365 := n11_
     have NB365_350 := n12_
     clear n0_ n1_ n2_ n3_ n4_ n5_ n6_ n7_ n8_ n9_ n10_ n11_ n12_
     clear hb hbox hg
     refine hK.out _ _ ⟨HS0_, HS1_, HS2_, HS3_⟩ (fun hHeld => ?_)
     clear hK K
     refine norm_ (a' := ?_) ?_ ?_
     rotate_left
     ·show Act.put _ (some 10) _ = _
      simp only [Act.put, sa, i64_w, i32_w]
      rfl
     refine one_ (i := 10) (N := some 9) spec_l23Word.m27 rfl rfl (one_of HT_.out (by kernel_rfl)) (by decide) (fun K hK => ?_)
     refine box_step ?hg (N := 9) ?hd (cs := #[.int .i64 0, .int .i64 0]) (t := 42) ?hr ?_; (case hd => rfl); (case hg => rfl); (case hr => first | (go_simp; done) | (go_simp; rfl))
     intro gb364 hg w48 hbox hb
     have HS0_ := (hb.cell (World.block_lt_of_cell? _ _ (hHeld.1))).trans (hHeld.1)
     have HS1_ := (hb.cell (World.block_lt_of_cell? _ _ (hHeld.2.1))).trans (hHeld.2.1)
     have HS2_ := (hb.cell (World.block_lt_of_cell? _ _ (hHeld.2.2.1))).trans (hHeld.2.2.1)
     have HS3_ := (hb.cell (World.block_lt_of_cell? _ _ (hHeld.2.2.2))).trans (hHeld.2.2.2)
     have n0_ := am (Kd.R_below (zR HO353) hb)
     have n1_ := am (Kd.R_below (Kd.R_elderB (zR HO356) gb364 (Nat.le_of_eq hg.symm)) hb)
     have n2_ := am (Kd.R_below (Kd.R_elderB (zR HO361) gb364 (Nat.le_of_eq hg.symm)) hb)
     have n3_ := am (Bk4 (g := gb349) (o := .cells #[.int .i64 ((rd_T42 l0 0).f0), .int .i64 ((rd_T42 l0 0).f1)] 42 (0, 0)) (zK BK349) hb)
     have n4_ := am (Bk4 (g := gb350) (o := .cells #[.int .i64 (wrap64 (x351000_1 + ((rd_T42 y354 x6_1).f0))), .int .i64 (wrap64 (x351001_1 + ((rd_T42 y354 x6_1).f1)))] 42 (0, 0)) (zK BK350) hb)
     have n5_ := am (Bk4 (g := gb365) (o := .cells #[.int .i64 0, .int .i64 0] 42 (0, 0)) (zK BK365) hb)
     have n6_ := am (Bb6 (by repeat (first | (with_reducible first | exact HB.out | apply Bb1 | apply Bb2 | apply Bb3 | refine Bb4 ?_ GE349.out | refine Bb4 ?_ GE350.out | refine Bb4 ?_ GE365.out) | exact HB.out)) hb)
     have n7_ := am (hbox)
     have n8_ := am ((by rw [hg]; exact (Bb5 (by repeat (first | (with_reducible first | exact HB.out | apply Bb1 | apply Bb2 | apply Bb3 | refine Bb4 ?_ GE349.out | refine Bb4 ?_ GE350.out | refine Bb4 ?_ GE365.out) | exact HB.out))) : w.heap.size ≤ gb364))
     have n9_ := am ((by rw [hg]; exact (Bb5 (by repeat (first | (with_reducible first | exact HB.out | apply Bb1 | apply Bb2 | apply Bb3 | refine Bb4 ?_ GE349.out | refine Bb4 ?_ GE350.out | refine Bb4 ?_ GE365.out) | exact HB.out))) : w.heap.size ≤ gb364))
     have n10_ := am ((by rw [hg]; exact nl (Bk5 (g := gb349) (o := .cells #[.int .i64 ((rd_T42 l0 0).f0), .int .i64 ((rd_T42 l0 0).f1)] 42 (0, 0)) (zK BK349)) : gb349 ≠ gb364))
     have n11_ := am ((by rw [hg]; exact ng (Bk5 (g := gb349) (o := .cells #[.int .i64 ((rd_T42 l0 0).f0), .int .i64 ((rd_T42 l0 0).f1)] 42 (0, 0)) (zK BK349)) : gb364 ≠ gb349))
     have n12_ := am ((by rw [hg]; exact nl (Bk5 (g := gb350) (o := .cells #[.int .i64 (wrap64 (x351000_1 + ((rd_T42 y354 x6_1).f0))), .int .i64 (wrap64 (x351001_1 + ((rd_T42 y354 x6_1).f1)))] 42 (0, 0)) (zK BK350)) : gb350 ≠ gb364))
     have n13_ := am ((by rw [hg]; exact ng (Bk5 (g := gb350) (o := .cells #[.int .i64 (wrap64 (x351000_1 + ((rd_T42 y354 x6_1).f0))), .int .i64 (wrap64 (x351001_1 + ((rd_T42 y354 x6_1).f1)))] 42 (0, 0)) (zK BK350)) : gb364 ≠ gb350))
     have n14_ := am ((by rw [hg]; exact nl (Bk5 (g := gb365) (o := .cells #[.int .i64 0, .int .i64 0] 42 (0, 0)) (zK BK365)) : gb365 ≠ gb364))
     have n15_ := am ((by rw [hg]; exact ng (Bk5 (g := gb365) (o := .cells #[.int .i64 0, .int .i64 0] 42 (0, 0)) (zK BK365)) : gb364 ≠ gb365))
     clear HO353
     clear HO356
     clear HO361
     clear BK349
     clear BK350
     clear BK365
     clear HB
     have HO353 := n0_
     have HO356 := n1_
     have HO361 := n2_
     have BK349 := n3_
     have BK350 := n4_
     have BK365 := n5_
     have HB := n6_
     have BK364 := n7_
     have GW364 := n8_
     have GE364 := n9_
     have NB349_364 := n10_
     have NB364_349 := n11_
     have NB350_364 := n12_
     have NB364_350 := n13_
     have NB365_364 := n14_
     have NB364_365 := n15_
     clear n0_ n1_ n2_ n3_ n4_ n5_ n6_ n7_ n8_ n9_ n10_ n11_ n12_ n13_ n14_ n15_
     clear hb hbox hg
     refine hK.out _ _ ⟨HS0_, HS1_, HS2_, HS3_⟩ (fun hHeld => ?_)
     clear hK K
     refine norm_ (a' := ?_) ?_ ?_
     rotate_left
     ·show Act.put _ (some 9) _ = _
      simp only [Act.put, sa, i64_w, i32_w]
      rfl
     exact norm_ (by simp only [putAll, Act.put, sa]) (hCont (gb364, gb365) _ ⟨hHeld, (zR HO353), (by (with_reducible repeat (first | apply Kd.R_alloc | apply Kd.R_drewN | apply Kd.R_drew)); exact Kd.R_mono HO356.out (fun _ hk => ⟨hk.1.1.2, ⟨hk.1.1.1.1.2, ⟨hk.1.1.1.2, ⟨hk.2, hk.1.2⟩⟩⟩⟩)), (by (with_reducible repeat (first | apply Kd.R_alloc | apply Kd.R_drewN | apply Kd.R_drew)); exact Kd.R_mono HO361.out (fun _ hk => ⟨hk.1.1.1.1.2, ⟨hk.1.1.1.2, ⟨hk.1.1.2, ⟨hk.2, hk.1.2⟩⟩⟩⟩)), (zK BK349), (zK BK350), (zK BK364), (zK BK365), GW364.out, GE364.out, NB349_364.out, NB364_349.out, NB350_364.out, NB364_350.out, NB365_364.out, NB364_365.out, GW365.out, GE365.out, NB349_365.out, NB365_349.out, NB350_365.out, NB365_350.out, (by repeat (first | (with_reducible first | exact HB.out | apply Bb1 | apply Bb2 | apply Bb3 | refine Bb4 ?_ GE349.out | refine Bb4 ?_ GE350.out | refine Bb4 ?_ GE365.out | refine Bb4 ?_ GE364.out) | exact HB.out))⟩)
    rintro ⟨gb364, gb365⟩ w49 ⟨hS_, h0_, h1_, h2_, h3_, h4_, h5_, h6_, h7_, h8_, h9_, h10_, h11_, h12_, h13_, h14_, h15_, h16_, h17_, h18_, h19_, h20_, h21_⟩
    have n0_ : Aside0 (Kd.R (Kd.int .u8) 5 w49 w.heap.size (fun _ => True) v352 y351) := ⟨h0_⟩
    have n1_ : Aside0 (Kd.R k42 42 w49 w.heap.size (fun k_ => some k_ ≠ (.slice (some ad362) y359.length co46 : Value).ownBlock ∧ k_ ≠ gb349 ∧ k_ ≠ gb350 ∧ k_ ≠ gb364 ∧ k_ ≠ gb365) (.slice (some ad357) y354.length co37) y354) := ⟨h1_⟩
    have n2_ : Aside0 (Kd.R k42 42 w49 w.heap.size (fun k_ => some k_ ≠ (.slice (some ad357) y354.length co37 : Value).ownBlock ∧ k_ ≠ gb349 ∧ k_ ≠ gb350 ∧ k_ ≠ gb364 ∧ k_ ≠ gb365) (.slice (some ad362) y359.length co46) y359) := ⟨h2_⟩
    have n3_ : Aside0 (w49.heap[gb349]? = some (.cells #[.int .i64 ((rd_T42 l0 0).f0), .int .i64 ((rd_T42 l0 0).f1)] 42 (0, 0))) := ⟨h3_⟩
    have n4_ : Aside0 (w49.heap[gb350]? = some (.cells #[.int .i64 (wrap64 (x351000_1 + ((rd_T42 y354 x6_1).f0))), .int .i64 (wrap64 (x351001_1 + ((rd_T42 y354 x6_1).f1)))] 42 (0, 0))) := ⟨h4_⟩
    have n5_ : Aside0 (w49.heap[gb364]? = some (.cells #[.int .i64 0, .int .i64 0] 42 (0, 0))) := ⟨h5_⟩
    have n6_ : Aside0 (w49.heap[gb365]? = some (.cells #[.int .i64 0, .int .i64 0] 42 (0, 0))) := ⟨h6_⟩
    have n7_ : Aside0 (w.heap.size ≤ gb364) := ⟨h7_⟩
    have n8_ : Aside0 (w.heap.size ≤ gb364) := ⟨h8_⟩
    have n9_ : Aside0 (gb349 ≠ gb364) := ⟨h9_⟩
    have n10_ : Aside0 (gb364 ≠ gb349) := ⟨h10_⟩
    have n11_ : Aside0 (gb350 ≠ gb364) := ⟨h11_⟩
    have n12_ : Aside0 (gb364 ≠ gb350) := ⟨h12_⟩
    have n13_ : Aside0 (gb365 ≠ gb364) := ⟨h13_⟩
    have n14_ : Aside0 (gb364 ≠ gb365) := ⟨h14_⟩
    have n15_ : Aside0 (w.heap.size ≤ gb365) := ⟨h15_⟩
    have n16_ : Aside0 (w.heap.size ≤ gb365) := ⟨h16_⟩
    have n17_ : Aside0 (gb349 ≠ gb365) := ⟨h17_⟩
    have n18_ : Aside0 (gb365 ≠ gb349) := ⟨h18_⟩
    have n19_ : Aside0 (gb350 ≠ gb365) := ⟨h19_⟩
    have n20_ : Aside0 (gb365 ≠ gb350) := ⟨h20_⟩
    have n21_ : Aside0 (Below w.heap.size w w49) := ⟨h21_⟩
    clear HO353
    clear HO356
    clear HO361
    clear BK349
    clear BK350
    clear HB
    clear h0_ h1_ h2_ h3_ h4_ h5_ h6_ h7_ h8_ h9_ h10_ h11_ h12_ h13_ h14_ h15_ h16_ h17_ h18_ h19_ h20_ h21_
    have HO353 := n0_
    have HO356 := n1_
    have HO361 := n2_
    have BK349 := n3_
    have BK350 := n4_
    have BK364 := n5_
    have BK365 := n6_
    have GW364 := n7_
    have GE364 := n8_
    have NB349_364 := n9_
    have NB364_349 := n10_
    have NB350_364 := n11_
    have NB364_350 := n12_
    have NB365_364 := n13_
    have NB364_365 := n14_
    have GW365 := n15_
    have GE365 := n16_
    have NB349_365 := n17_
    have NB365_349 := n18_
    have NB350_365 := n19_
    have NB365_350 := n20_
    have HB := n21_
    clear n0_ n1_ n2_ n3_ n4_ n5_ n6_ n7_ n8_ n9_ n10_ n11_ n12_ n13_ n14_ n15_ n16_ n17_ n18_ n19_ n20_ n21_
    have hHeld : w49.cell? (ad362.add ((x6_1).toNat * 2)) = some (.int .i64 ((rd_T42 y359 x6_1).f0)) ∧ w49.cell? ⟨(ad362.add ((x6_1).toNat * 2)).block, (ad362.add ((x6_1).toNat * 2)).off + 1, none⟩ = some (.int .i64 ((rd_T42 y359 x6_1).f1)) ∧ w49.cell? (ad362.add (((ji28)).toNat * 2)) = some (.int .i64 ((rd_T42 y359 (ji28)).f0)) ∧ w49.cell? ⟨(ad362.add (((ji28)).toNat * 2)).block, (ad362.add (((ji28)).toNat * 2)).off + 1, none⟩ = some (.int .i64 ((rd_T42 y359 (ji28)).f1)) := hS_
    refine norm_ (a' := ?_) ?_ ?_
    rotate_left
    ·simp only [putAll, Act.put, sa]
     rfl
    refine one_ (i := 12) (N := none) spec_l23Word.m28 rfl rfl (one_of HT_.out (by kernel_rfl)) (by decide) (fun K hK => ?_)
    have hs50 : w49.cell? ⟨gb364, 0, none⟩ = some (.int .i64 0) := (kc BK364.out 0).trans rfl
    have hfs50 := kf BK364.out 0
    have hns50_0 := NB349_364.out
    have hns50_1 := NB350_364.out
    have hns50_3 := NB365_364.out
    have hms50_0 := NB364_349.out
    have hms50_1 := NB364_350.out
    have hms50_3 := NB364_365.out
    have hs51 : w49.cell? ⟨gb364, 1, none⟩ = some (.int .i64 0) := (kc BK364.out 1).trans rfl
    have hfs51 := kf BK364.out 1
    have hns51_0 := NB349_364.out
    have hns51_1 := NB350_364.out
    have hns51_3 := NB365_364.out
    have hms51_0 := NB364_349.out
    have hms51_1 := NB364_350.out
    have hms51_3 := NB364_365.out
    refine skip_ (w1 := ?_) (by rfl) rfl ?_ ?_
    rotate_left
    ·go_simp
     rfl
    refine hK.out _ _ ⟨((cell_far (p := ⟨gb364, _, none⟩) (by first | exact Kd.own_blk (Kd.R_away HO361.out (fun _ hk => hk.2.2.2.1)) | (rw [add_block]; exact Kd.own_blk (Kd.R_away HO361.out (fun _ hk => hk.2.2.2.1))) | (show (Addr.add _ _).block ≠ _; rw [add_block]; exact Kd.own_blk (Kd.R_away HO361.out (fun _ hk => hk.2.2.2.1))) | (dsimp only; exact Kd.own_blk (Kd.R_away HO361.out (fun _ hk => hk.2.2.2.1)))) _).trans (((cell_far (p := ⟨gb364, _, none⟩) (by first | exact Kd.own_blk (Kd.R_away HO361.out (fun _ hk => hk.2.2.2.1)) | (rw [add_block]; exact Kd.own_blk (Kd.R_away HO361.out (fun _ hk => hk.2.2.2.1))) | (show (Addr.add _ _).block ≠ _; rw [add_block]; exact Kd.own_blk (Kd.R_away HO361.out (fun _ hk => hk.2.2.2.1))) | (dsimp only; exact Kd.own_blk (Kd.R_away HO361.out (fun _ hk => hk.2.2.2.1)))) _).trans (hHeld.1)))), ((cell_far (p := ⟨gb364, _, none⟩) (by first | exact Kd.own_blk (Kd.R_away HO361.out (fun _ hk => hk.2.2.2.1)) | (rw [add_block]; exact Kd.own_blk (Kd.R_away HO361.out (fun _ hk => hk.2.2.2.1))) | (show (Addr.add _ _).block ≠ _; rw [add_block]; exact Kd.own_blk (Kd.R_away HO361.out (fun _ hk => hk.2.2.2.1))) | (dsimp only; exact Kd.own_blk (Kd.R_away HO361.out (fun _ hk => hk.2.2.2.1)))) _).trans (((cell_far (p := ⟨gb364, _, none⟩) (by first | exact Kd.own_blk (Kd.R_away HO361.out (fun _ hk => hk.2.2.2.1)) | (rw [add_block]; exact Kd.own_blk (Kd.R_away HO361.out (fun _ hk => hk.2.2.2.1))) | (show (Addr.add _ _).block ≠ _; rw [add_block]; exact Kd.own_blk (Kd.R_away HO361.out (fun _ hk => hk.2.2.2.1))) | (dsimp only; exact Kd.own_blk (Kd.R_away HO361.out (fun _ hk => hk.2.2.2.1)))) _).trans (hHeld.2.1)))), ((cell_far (p := ⟨gb364, _, none⟩) (by first | exact Kd.own_blk (Kd.R_away HO361.out (fun _ hk => hk.2.2.2.1)) | (rw [add_block]; exact Kd.own_blk (Kd.R_away HO361.out (fun _ hk => hk.2.2.2.1))) | (show (Addr.add _ _).block ≠ _; rw [add_block]; exact Kd.own_blk (Kd.R_away HO361.out (fun _ hk => hk.2.2.2.1))) | (dsimp only; exact Kd.own_blk (Kd.R_away HO361.out (fun _ hk => hk.2.2.2.1)))) _).trans (((cell_far (p := ⟨gb364, _, none⟩) (by first | exact Kd.own_blk (Kd.R_away HO361.out (fun _ hk => hk.2.2.2.1)) | (rw [add_block]; exact Kd.own_blk (Kd.R_away HO361.out (fun _ hk => hk.2.2.2.1))) | (show (Addr.add _ _).block ≠ _; rw [add_block]; exact Kd.own_blk (Kd.R_away HO361.out (fun _ hk => hk.2.2.2.1))) | (dsimp only; exact Kd.own_blk (Kd.R_away HO361.out (fun _ hk => hk.2.2.2.1)))) _).trans (hHeld.2.2.1)))), ((cell_far (p := ⟨gb364, _, none⟩) (by first | exact Kd.own_blk (Kd.R_away HO361.out (fun _ hk => hk.2.2.2.1)) | (rw [add_block]; exact Kd.own_blk (Kd.R_away HO361.out (fun _ hk => hk.2.2.2.1))) | (show (Addr.add _ _).block ≠ _; rw [add_block]; exact Kd.own_blk (Kd.R_away HO361.out (fun _ hk => hk.2.2.2.1))) | (dsimp only; exact Kd.own_blk (Kd.R_away HO361.out (fun _ hk => hk.2.2.2.1)))) _).trans (((cell_far (p := ⟨gb364, _, none⟩) (by first | exact Kd.own_blk (Kd.R_away HO361.out (fun _ hk => hk.2.2.2.1)) | (rw [add_block]; exact Kd.own_blk (Kd.R_away HO361.out (fun _ hk => hk.2.2.2.1))) | (show (Addr.add _ _).block ≠ _; rw [add_block]; exact Kd.own_blk (Kd.R_away HO361.out (fun _ hk => hk.2.2.2.1))) | (dsimp only; exact Kd.own_blk (Kd.R_away HO361.out (fun _ hk => hk.2.2.2.1)))) _).trans (hHeld.2.2.2))))⟩ (fun hHeld => ?_)
    clear hK K
    refine one_ (i := 13) (N := none) spec_l23Word.m34 rfl rfl (one_of HT_.out (by kernel_rfl)) (by decide) (fun K hK => ?_)
    have hs52 : w49.cell? ⟨gb365, 0, none⟩ = some (.int .i64 0) := (kc BK365.out 0).trans rfl
    have hfs52 := kf BK365.out 0
    have hns52_0 := NB349_365.out
    have hns52_1 := NB350_365.out
    have hns52_2 := NB364_365.out
    have hms52_0 := NB365_349.out
    have hms52_1 := NB365_350.out
    have hms52_2 := NB365_364.out
    have hs53 : w49.cell? ⟨gb365, 1, none⟩ = some (.int .i64 0) := (kc BK365.out 1).trans rfl
    have hfs53 := kf BK365.out 1
    have hns53_0 := NB349_365.out
    have hns53_1 := NB350_365.out
    have hns53_2 := NB364_365.out
    have hms53_0 := NB365_349.out
    have hms53_1 := NB365_350.out
    have hms53_2 := NB365_364.out
    refine skip_ (w1 := ?_) (by rfl) rfl ?_ ?_
    rotate_left
    ·go_simp
     rfl
    refine hK.out _ _ ⟨((cell_far (p := ⟨gb365, _, none⟩) (by first | exact Kd.own_blk (Kd.R_away HO361.out (fun _ hk => hk.2.2.2.2)) | (rw [add_block]; exact Kd.own_blk (Kd.R_away HO361.out (fun _ hk => hk.2.2.2.2))) | (show (Addr.add _ _).block ≠ _; rw [add_block]; exact Kd.own_blk (Kd.R_away HO361.out (fun _ hk => hk.2.2.2.2))) | (dsimp only; exact Kd.own_blk (Kd.R_away HO361.out (fun _ hk => hk.2.2.2.2)))) _).trans (((cell_far (p := ⟨gb365, _, none⟩) (by first | exact Kd.own_blk (Kd.R_away HO361.out (fun _ hk => hk.2.2.2.2)) | (rw [add_block]; exact Kd.own_blk (Kd.R_away HO361.out (fun _ hk => hk.2.2.2.2))) | (show (Addr.add _ _).block ≠ _; rw [add_block]; exact Kd.own_blk (Kd.R_away HO361.out (fun _ hk => hk.2.2.2.2))) | (dsimp only; exact Kd.own_blk (Kd.R_away HO361.out (fun _ hk => hk.2.2.2.2)))) _).trans (hHeld.1)))), ((cell_far (p := ⟨gb365, _, none⟩) (by first | exact Kd.own_blk (Kd.R_away HO361.out (fun _ hk => hk.2.2.2.2)) | (rw [add_block]; exact Kd.own_blk (Kd.R_away HO361.out (fun _ hk => hk.2.2.2.2))) | (show (Addr.add _ _).block ≠ _; rw [add_block]; exact Kd.own_blk (Kd.R_away HO361.out (fun _ hk => hk.2.2.2.2))) | (dsimp only; exact Kd.own_blk (Kd.R_away HO361.out (fun _ hk => hk.2.2.2.2)))) _).trans (((cell_far (p := ⟨gb365, _, none⟩) (by first | exact Kd.own_blk (Kd.R_away HO361.out (fun _ hk => hk.2.2.2.2)) | (rw [add_block]; exact Kd.own_blk (Kd.R_away HO361.out (fun _ hk => hk.2.2.2.2))) | (show (Addr.add _ _).block ≠ _; rw [add_block]; exact Kd.own_blk (Kd.R_away HO361.out (fun _ hk => hk.2.2.2.2))) | (dsimp only; exact Kd.own_blk (Kd.R_away HO361.out (fun _ hk => hk.2.2.2.2)))) _).trans (hHeld.2.1)))), ((cell_far (p := ⟨gb365, _, none⟩) (by first | exact Kd.own_blk (Kd.R_away HO361.out (fun _ hk => hk.2.2.2.2)) | (rw [add_block]; exact Kd.own_blk (Kd.R_away HO361.out (fun _ hk => hk.2.2.2.2))) | (show (Addr.add _ _).block ≠ _; rw [add_block]; exact Kd.own_blk (Kd.R_away HO361.out (fun _ hk => hk.2.2.2.2))) | (dsimp only; exact Kd.own_blk (Kd.R_away HO361.out (fun _ hk => hk.2.2.2.2)))) _).trans (((cell_far (p := ⟨gb365, _, none⟩) (by first | exact Kd.own_blk (Kd.R_away HO361.out (fun _ hk => hk.2.2.2.2)) | (rw [add_block]; exact Kd.own_blk (Kd.R_away HO361.out (fun _ hk => hk.2.2.2.2))) | (show (Addr.add _ _).block ≠ _; rw [add_block]; exact Kd.own_blk (Kd.R_away HO361.out (fun _ hk => hk.2.2.2.2))) | (dsimp only; exact Kd.own_blk (Kd.R_away HO361.out (fun _ hk => hk.2.2.2.2)))) _).trans (hHeld.2.2.1)))), ((cell_far (p := ⟨gb365, _, none⟩) (by first | exact Kd.own_blk (Kd.R_away HO361.out (fun _ hk => hk.2.2.2.2)) | (rw [add_block]; exact Kd.own_blk (Kd.R_away HO361.out (fun _ hk => hk.2.2.2.2))) | (show (Addr.add _ _).block ≠ _; rw [add_block]; exact Kd.own_blk (Kd.R_away HO361.out (fun _ hk => hk.2.2.2.2))) | (dsimp only; exact Kd.own_blk (Kd.R_away HO361.out (fun _ hk => hk.2.2.2.2)))) _).trans (((cell_far (p := ⟨gb365, _, none⟩) (by first | exact Kd.own_blk (Kd.R_away HO361.out (fun _ hk => hk.2.2.2.2)) | (rw [add_block]; exact Kd.own_blk (Kd.R_away HO361.out (fun _ hk => hk.2.2.2.2))) | (show (Addr.add _ _).block ≠ _; rw [add_block]; exact Kd.own_blk (Kd.R_away HO361.out (fun _ hk => hk.2.2.2.2))) | (dsimp only; exact Kd.own_blk (Kd.R_away HO361.out (fun _ hk => hk.2.2.2.2)))) _).trans (hHeld.2.2.2))))⟩ (fun hHeld => ?_)
    clear hK K
    refine done_ (done_of HT_.out (by kernel_rfl)) ?_
    have hnb54 := NB364_349.out
    have hnc54 := NB349_364.out
    have hnb55 := NB364_350.out
    have hnc55 := NB350_364.out
    have hnb56 := NB364_365.out
    have hnc56 := NB365_364.out
    have hcz57_0 : w49.cell? ⟨gb364, 0, none⟩ = some (.int .i64 0) := (kc BK364.out 0).trans rfl
    have hcz57_1 : w49.cell? ⟨gb364, 1, none⟩ = some (.int .i64 0) := (kc BK364.out 1).trans rfl
    have hfz57_0 := kf BK364.out 0
    have hfz57_1 := kf BK364.out 1
    try go_wp2_with (first | ((with_reducible refine gate_callee (f := 70) rfl ?_); refine goesL_ (some 82) rfl rfl Tryd.func70 (by kernel_rfl) rfl #[.slice (some ad348) l0.length c0, .agg #[.int .i64 ((rd_T42 y359 x6_1).f0), .int .i64 ((rd_T42 y359 x6_1).f1)]] rfl zL ?_; (with_reducible refine (spec_l02Index.calls k1 _ _ l0 ((rd_T42 y359 x6_1).f0) ((rd_T42 y359 x6_1).f1) t366 _ ?side1 ?side2 A31.out).mono ?_); (case side1 => exact Kd.C_below HR0.out (by repeat (first | (with_reducible first | exact HB.out | apply Bb1 | apply Bb2 | apply Bb3 | refine Bb4 ?_ GE349.out | refine Bb4 ?_ GE350.out | refine Bb4 ?_ GE364.out | refine Bb4 ?_ GE365.out) | exact HB.out))); (case side2 => exact HC0.out); rintro e w58 ⟨rfl, hb⟩; refine ⟨_, rfl, ?_⟩; have n0_ := am (Kd.R_below (by (with_reducible repeat (first | apply Kd.R_alloc | apply Kd.R_drewN | apply Kd.R_drew)); exact (Kd.R_mono (Kd.R_mono (Kd.R_far (p := ⟨gb365, 1, none⟩) (Kd.R_far (p := ⟨gb365, 0, none⟩) (Kd.R_far (p := ⟨gb364, 1, none⟩) (Kd.R_far (p := ⟨gb364, 0, none⟩) (Kd.R_types (Kd.R_types HO353.out BK364.out (by decide)) BK365.out (by decide)) (fun _ hk => hk.1.2) (.int .i64 ((rd_T42 y359 x6_1).f0))) (fun _ hk => hk.1.2) (.int .i64 ((rd_T42 y359 x6_1).f1))) (fun _ hk => hk.2) (.int .i64 ((rd_T42 y359 (ji28)).f0))) (fun _ hk => hk.2) (.int .i64 ((rd_T42 y359 (ji28)).f1))) (fun _ h_ => h_.1)) (fun _ h_ => h_.1))) hb); have n1_ := am (Kd.R_below (by (with_reducible repeat (first | apply Kd.R_alloc | apply Kd.R_drewN | apply Kd.R_drew)); exact (Kd.R_mono (Kd.R_mono (Kd.R_far (p := ⟨gb365, 1, none⟩) (Kd.R_far (p := ⟨gb365, 0, none⟩) (Kd.R_far (p := ⟨gb364, 1, none⟩) (Kd.R_far (p := ⟨gb364, 0, none⟩) (Kd.R_mono (Kd.R_mono HO356.out (fun k_ hk => (⟨hk, hk.2.2.2.1⟩ : _ ∧ k_ ≠ gb364))) (fun k_ hk => (⟨hk, hk.1.2.2.2.2⟩ : _ ∧ k_ ≠ gb365))) (fun _ hk => hk.1.2) (.int .i64 ((rd_T42 y359 x6_1).f0))) (fun _ hk => hk.1.2) (.int .i64 ((rd_T42 y359 x6_1).f1))) (fun _ hk => hk.2) (.int .i64 ((rd_T42 y359 (ji28)).f0))) (fun _ hk => hk.2) (.int .i64 ((rd_T42 y359 (ji28)).f1))) (fun _ h_ => h_.1)) (fun _ h_ => h_.1))) hb); have n2_ := am (Kd.R_below (by (with_reducible repeat (first | apply Kd.R_alloc | apply Kd.R_drewN | apply Kd.R_drew)); exact (Kd.R_mono (Kd.R_mono (Kd.R_far (p := ⟨gb365, 1, none⟩) (Kd.R_far (p := ⟨gb365, 0, none⟩) (Kd.R_far (p := ⟨gb364, 1, none⟩) (Kd.R_far (p := ⟨gb364, 0, none⟩) (Kd.R_mono (Kd.R_mono HO361.out (fun k_ hk => (⟨hk, hk.2.2.2.1⟩ : _ ∧ k_ ≠ gb364))) (fun k_ hk => (⟨hk, hk.1.2.2.2.2⟩ : _ ∧ k_ ≠ gb365))) (fun _ hk => hk.1.2) (.int .i64 ((rd_T42 y359 x6_1).f0))) (fun _ hk => hk.1.2) (.int .i64 ((rd_T42 y359 x6_1).f1))) (fun _ hk => hk.2) (.int .i64 ((rd_T42 y359 (ji28)).f0))) (fun _ hk => hk.2) (.int .i64 ((rd_T42 y359 (ji28)).f1))) (fun _ h_ => h_.1)) (fun _ h_ => h_.1))) hb); have n3_ := am (Bk4 (g := gb349) (o := .cells #[.int .i64 ((rd_T42 l0 0).f0), .int .i64 ((rd_T42 l0 0).f1)] 42 (0, 0)) (by (with_reducible repeat (first | refine Bk2 ?_ _ | refine Bk3 ?_ | refine Bk1 ?_ _)); refine blk_far ?_ NB349_365.out _; (with_reducible repeat (first | refine Bk2 ?_ _ | refine Bk3 ?_ | refine Bk1 ?_ _)); refine blk_far ?_ NB349_365.out _; (with_reducible repeat (first | refine Bk2 ?_ _ | refine Bk3 ?_ | refine Bk1 ?_ _)); refine blk_far ?_ NB349_364.out _; (with_reducible repeat (first | refine Bk2 ?_ _ | refine Bk3 ?_ | refine Bk1 ?_ _)); refine blk_far ?_ NB349_364.out _; (with_reducible repeat (first | refine Bk2 ?_ _ | refine Bk3 ?_ | refine Bk1 ?_ _)); exact BK349.out) hb); have n4_ := am (Bk4 (g := gb350) (o := .cells #[.int .i64 (wrap64 (x351000_1 + ((rd_T42 y354 x6_1).f0))), .int .i64 (wrap64 (x351001_1 + ((rd_T42 y354 x6_1).f1)))] 42 (0, 0)) (by (with_reducible repeat (first | refine Bk2 ?_ _ | refine Bk3 ?_ | refine Bk1 ?_ _)); refine blk_far ?_ NB350_365.out _; (with_reducible repeat (first | refine Bk2 ?_ _ | refine Bk3 ?_ | refine Bk1 ?_ _)); refine blk_far ?_ NB350_365.out _; (with_reducible repeat (first | refine Bk2 ?_ _ | refine Bk3 ?_ | refine Bk1 ?_ _)); refine blk_far ?_ NB350_364.out _; (with_reducible repeat (first | refine Bk2 ?_ _ | refine Bk3 ?_ | refine Bk1 ?_ _)); refine blk_far ?_ NB350_364.out _; (with_reducible repeat (first | refine Bk2 ?_ _ | refine Bk3 ?_ | refine Bk1 ?_ _)); exact BK350.out) hb); have n5_ := am (Bk4 (g := gb364) (o := .cells #[.int .i64 ((rd_T42 y359 x6_1).f0), .int .i64 ((rd_T42 y359 x6_1).f1)] 42 (0, 0)) (by (with_reducible repeat (first | refine Bk2 ?_ _ | refine Bk3 ?_ | refine Bk1 ?_ _)); refine blk_far ?_ NB364_365.out _; (with_reducible repeat (first | refine Bk2 ?_ _ | refine Bk3 ?_ | refine Bk1 ?_ _)); refine blk_far ?_ NB364_365.out _; (with_reducible repeat (first | refine Bk2 ?_ _ | refine Bk3 ?_ | refine Bk1 ?_ _)); refine blk_put (cs := #[.int .i64 ((rd_T42 y359 x6_1).f0), .int .i64 0]) ?_ 1 _ rfl; (with_reducible repeat (first | refine Bk2 ?_ _ | refine Bk3 ?_ | refine Bk1 ?_ _)); refine blk_put (cs := #[.int .i64 0, .int .i64 0]) ?_ 0 _ rfl; (with_reducible repeat (first | refine Bk2 ?_ _ | refine Bk3 ?_ | refine Bk1 ?_ _)); exact BK364.out) hb); have n6_ := am (Bk4 (g := gb365) (o := .cells #[.int .i64 ((rd_T42 y359 (ji28)).f0), .int .i64 ((rd_T42 y359 (ji28)).f1)] 42 (0, 0)) (by (with_reducible repeat (first | refine Bk2 ?_ _ | refine Bk3 ?_ | refine Bk1 ?_ _)); refine blk_put (cs := #[.int .i64 ((rd_T42 y359 (ji28)).f0), .int .i64 0]) ?_ 1 _ rfl; (with_reducible repeat (first | refine Bk2 ?_ _ | refine Bk3 ?_ | refine Bk1 ?_ _)); refine blk_put (cs := #[.int .i64 0, .int .i64 0]) ?_ 0 _ rfl; (with_reducible repeat (first | refine Bk2 ?_ _ | refine Bk3 ?_ | refine Bk1 ?_ _)); refine blk_far ?_ NB365_364.out _; (with_reducible repeat (first | refine Bk2 ?_ _ | refine Bk3 ?_ | refine Bk1 ?_ _)); refine blk_far ?_ NB365_364.out _; (with_reducible repeat (first | refine Bk2 ?_ _ | refine Bk3 ?_ | refine Bk1 ?_ _)); exact BK365.out) hb); have n7_ := am (Bb6 (by repeat (first | (with_reducible first | exact HB.out | apply Bb1 | apply Bb2 | apply Bb3 | refine Bb4 ?_ GE349.out | refine Bb4 ?_ GE350.out | refine Bb4 ?_ GE364.out | refine Bb4 ?_ GE365.out) | exact HB.out)) hb); clear HO353; clear HO356; clear HO361; clear BK349; clear BK350; clear BK364; clear BK365; clear HB; have HO353 := n0_; have HO356 := n1_; have HO361 := n2_; have BK349 := n3_; have BK350 := n4_; have BK364 := n5_; have BK365 := n6_; have HB := n7_; clear n0_ n1_ n2_ n3_ n4_ n5_ n6_ n7_; (try clear hb); (try clear hb2); (try clear hk); (try clear hi)))
    go_roundg k1
    case measure => have := HK1.out; omega
    case rel => exact ⟨(y351), (Int.tmod (wrap64 (x6_1 + 3)) 4), (wrap64 (x351000_1 + ((rd_T42 y354 x6_1).f0))), (wrap64 (x351001_1 + ((rd_T42 y354 x6_1).f1))), zS, H', ⟨by have := HK1.out; omega⟩, ⟨zR HO353⟩, ⟨zK BK349⟩, ⟨zK BK350⟩, ⟨by repeat (first | (with_reducible first | exact HB.out | apply Bb1 | apply Bb2 | apply Bb3 | refine Bb4 ?_ GE349.out | refine Bb4 ?_ GE350.out | refine Bb4 ?_ GE364.out | refine Bb4 ?_ GE365.out) | exact HB.out)⟩⟩
   rw [if_neg c32] at H
   have c32b0 : decide (0 ≤ t366) = false := decide_eq_false c32
   clear c32
   replace H := ob H
   obtain ⟨t367, A590, H⟩ := H
   (try dsimp only at H)
   have A59 := am A590
   clear A590
   by_cases c60 : t367 < 0
   ·rw [if_pos c60] at H
    have c60b0 : decide (t367 < 0) = true := decide_eq_true c60
    clear c60
    have H' := am H
    clear H
    have p12 : 0 ≤ (x6_1 : Int) := zD
    have q12 : x6_1 < (4 : Int) := zD
    have hx12 := bt_at (⟨#[114, 100, 108, 117]⟩ : ByteArray) x6_1
    replace p12 := eq_true p12
    replace q12 := eq_true q12
    try go_wp2_with (first | ((with_reducible refine gate_builtin (b := .append) (xs := #[.tmp 16, .tmp 19]) rfl ?_); at_builtin; refine Kd.R_append (Kd.int .u8) (w0 := w) w.heap.size rfl (.tmp 16) (.tmp 19) 32 5 (.int .u8 0) 1 rfl Tryd.underlying32 info5 rfl (by decide) (by omega) u3 x3_1 (bt (⟨#[114, 100, 108, 117]⟩ : ByteArray) x6_1) [.int .u8 (bt (⟨#[114, 100, 108, 117]⟩ : ByteArray) x6_1)] (fun _ => True) (fun _ => False) rfl rfl ?aP (fun _ hk => hk.elim) ?aF ?aO ?aB ?aS ?aL ?_; (case aP => exact rfl); (case aB => exact (by repeat (first | (with_reducible first | exact HB.out | apply Bb1 | apply Bb2 | apply Bb3 | refine Bb4 ?_ GE349.out | refine Bb4 ?_ GE350.out) | exact HB.out))); (case aF => exact (fun _ _ => trivial)); (case aO => exact (zR HO_3)); (case aS => exact (Bb5 (by repeat (first | (with_reducible first | exact HB.out | apply Bb1 | apply Bb2 | apply Bb3 | refine Bb4 ?_ GE349.out | refine Bb4 ?_ GE350.out) | exact HB.out)))); (case aL => have := LMc13.out; omega); intro v352 w61 ho hb hg hat; rw [← Ny351.out] at ho; have n0_ := am (blk_grown (g := gb349) (o := .cells #[.int .i64 ((rd_T42 l0 0).f0), .int .i64 ((rd_T42 l0 0).f1)] 42 (0, 0)) (zK BK349) hg (Kd.R_ne HO_3.out BK349.out (by decide))); have n1_ := am (blk_grown (g := gb350) (o := .cells #[.int .i64 x351000_1, .int .i64 x351001_1] 42 (0, 0)) (zK BK350) hg (Kd.R_ne HO_3.out BK350.out (by decide))); have n2_ := am (hb); have n3_ := am (ho); clear BK349; clear BK350; clear HB; clear HO_3; have BK349 := n0_; have BK350 := n1_; have HB := n2_; have HO353 := n3_; clear n0_ n1_ n2_ n3_; clear ho hb hg hat) | ((with_reducible refine gate_dst (N := 25) rfl ?_); refine Kd.R_lit k42 _ 42 ?hg (N := 25) ?hd (xs := ([(⟨1, 0⟩ : S42), (⟨0, 1⟩ : S42), (⟨(-1), 0⟩ : S42), (⟨0, (-1)⟩ : S42)] : List (S42))) (inner := [.int .i64 1, .int .i64 0, .int .i64 0, .int .i64 1, .int .i64 (-1), .int .i64 0, .int .i64 0, .int .i64 (-1)]) (ok := fun _ => True) (okp := fun _ => True) ?hr ?hp (fun _ hk => hk) trivial (Below.refl _ _) (Nat.le_refl _) (by simp) ?_; (case hd => rfl); (case hg => rfl); (case hr => first | (go_simp; done) | (go_simp; rfl)); (case hp => exact (Reps.c2 (show Kd.M k42 _ _ _ (⟨1, 0⟩ : S42) [.int .i64 1, .int .i64 0] from (k42_mkM _ _ _ (⟨1, 0⟩ : S42) )) (Reps.c2 (show Kd.M k42 _ _ _ (⟨0, 1⟩ : S42) [.int .i64 0, .int .i64 1] from (k42_mkM _ _ _ (⟨0, 1⟩ : S42) )) (Reps.c2 (show Kd.M k42 _ _ _ (⟨(-1), 0⟩ : S42) [.int .i64 (-1), .int .i64 0] from (k42_mkM _ _ _ (⟨(-1), 0⟩ : S42) )) (Reps.c2 (show Kd.M k42 _ _ _ (⟨0, (-1)⟩ : S42) [.int .i64 0, .int .i64 (-1)] from (k42_mkM _ _ _ (⟨0, (-1)⟩ : S42) )) (Reps.none _ _)))))); intro v355 w62 ho63 hb hg_ hnew_; clear hg_ hnew_; (first | rw [← Ny354.out] at ho63 | (simp only [Int.reduceToNat] at ho63; rw [← Ny354.out] at ho63)); have n0_ := am (Kd.R_below (zR HO353) hb); have n1_ := am (Kd.R_lower (Kd.R_newB (Kd.R_newB ho63 (g := gb349) (o := .cells #[.int .i64 ((rd_T42 l0 0).f0), .int .i64 ((rd_T42 l0 0).f1)] 42 (0, 0)) (zK BK349)) (g := gb350) (o := .cells #[.int .i64 x351000_1, .int .i64 x351001_1] 42 (0, 0)) (zK BK350)) (Bb5 (by repeat (first | (with_reducible first | exact HB.out | apply Bb1 | apply Bb2 | apply Bb3 | refine Bb4 ?_ GE349.out | refine Bb4 ?_ GE350.out) | exact HB.out)))); have n2_ := am (Bk4 (g := gb349) (o := .cells #[.int .i64 ((rd_T42 l0 0).f0), .int .i64 ((rd_T42 l0 0).f1)] 42 (0, 0)) (zK BK349) hb); have n3_ := am (Bk4 (g := gb350) (o := .cells #[.int .i64 x351000_1, .int .i64 x351001_1] 42 (0, 0)) (zK BK350) hb); have n4_ := am (Bb6 (by repeat (first | (with_reducible first | exact HB.out | apply Bb1 | apply Bb2 | apply Bb3 | refine Bb4 ?_ GE349.out | refine Bb4 ?_ GE350.out) | exact HB.out)) hb); clear HO353; clear BK349; clear BK350; clear HB; have HO353 := n0_; have HO356 := n1_; have BK349 := n2_; have BK350 := n3_; have HB := n4_; clear n0_ n1_ n2_ n3_ n4_; clear hb ho63))
    have n0_ := am (Kd.R_drew HO353.out)
    have n1_ := am (Kd.R_drew HO356.out)
    have n2_ := am (Bk3 BK349.out)
    have n3_ := am (Bk3 BK350.out)
    have n4_ := am (Bb3 HB.out)
    clear HO353
    clear HO356
    clear BK349
    clear BK350
    clear HB
    have HO353 := n0_
    have HO356 := n1_
    have BK349 := n2_
    have BK350 := n3_
    have HB := n4_
    clear n0_ n1_ n2_ n3_ n4_
    obtain ⟨Ao65, co65, eo65⟩ := Kd.R_slice HO356.out
    (first | subst eo65 | (injection eo65 with f1_ f2_ f3_; have f4_ := f1_.symm; have f5_ := f3_.symm; clear f1_ f2_ f3_; subst f4_; subst f5_))
    have p357 : 0 ≤ (x6_1 : Int) := zD
    have q357 : x6_1 < (y354.length : Int) := zD
    obtain ⟨ad357, e357, hx357_0, hx357_1⟩ := at_T42 (Kd.R_reads' HO356.out).2.2 x6_1 p357 q357
    cases e357
    replace p357 := eq_true p357
    replace q357 := eq_true q357
    have p358 : 0 ≤ (x6_1 : Int) := zD
    have q358 : x6_1 < (y354.length : Int) := zD
    obtain ⟨ad358, e358, hx358_0, hx358_1⟩ := at_T42 (Kd.R_reads' HO356.out).2.2 x6_1 p358 q358
    obtain rfl : ad357 = ad358 := (by injection e358)
    replace p358 := eq_true p358
    replace q358 := eq_true q358
    refine start_ (n := 18) (S := fun w' => w'.cell? ⟨gb350, 0, none⟩ = some (.int .i64 x351000_1) ∧ w'.cell? ⟨gb350, 1, none⟩ = some (.int .i64 x351001_1) ∧ w'.cell? (ad357.add ((x6_1).toNat * 2)) = some (.int .i64 ((rd_T42 y354 x6_1).f0)) ∧ w'.cell? ⟨(ad357.add ((x6_1).toNat * 2)).block, (ad357.add ((x6_1).toNat * 2)).off + 1, none⟩ = some (.int .i64 ((rd_T42 y354 x6_1).f1)) ∧ w'.cell? (ad357.add ((x6_1).toNat * 2)) = some (.int .i64 ((rd_T42 y354 x6_1).f0)) ∧ w'.cell? ⟨(ad357.add ((x6_1).toNat * 2)).block, (ad357.add ((x6_1).toNat * 2)).off + 1, none⟩ = some (.int .i64 ((rd_T42 y354 x6_1).f1))) (ds := [17]) spec_l23Word.m0 (by kernel_rfl) rfl rfl ⟨(kc BK350.out 0).trans rfl, (kc BK350.out 1).trans rfl, hx357_0, hx357_1, hx358_0, hx358_1⟩ (fun hHeld => ?_); refine with_tabW spec_l23Word.tab7 spec_l23Word.bits7 (fun HT_ HW_ => ?_)
    generalize w62.drew = w64 at HO353 HO356 BK349 BK350 HB hx357_0 hx357_1 hx358_0 hx358_1 hHeld ⊢
    refine pure_ (i := 0) (N := some 26) (v := ?_) (a' := ?_) spec_l23Word.m2 rfl rfl zA (fun _ _ _ h => h) (Or.inl ⟨by rfl, ?_⟩) ?_ ?_
    rotate_left
    ·intro w'
     go_simp
     with_reducible rfl
    rotate_left
    ·exact zP
    refine pure_ (i := 2) (N := some 28) (v := ?_) (a' := ?_) spec_l23Word.m4 rfl rfl zA (fun _ _ _ h => h) (Or.inl ⟨by rfl, ?_⟩) ?_ ?_
    rotate_left
    ·intro w'
     go_simp
     with_reducible rfl
    rotate_left
    ·exact zP
    refine pure_ (i := 3) (N := some 29) (v := ?_) (a' := ?_) spec_l23Word.m5 rfl rfl zA (fun _ _ _ h => h) (Or.inl ⟨by rfl, ?_⟩) ?_ ?_
    rotate_left
    ·intro w'
     go_simp
     with_reducible rfl
    rotate_left
    ·exact zP
    refine pure_ (i := 4) (N := some 30) (v := ?_) (a' := ?_) spec_l23Word.m6 rfl rfl zA (fun _ _ _ h => h) (Or.inl ⟨by rfl, ?_⟩) ?_ ?_
    rotate_left
    ·intro w'
     go_simp
     with_reducible rfl
    rotate_left
    ·exact zP
    refine pure_ (i := 5) (N := some 31) (v := ?_) (a' := ?_) spec_l23Word.m7 rfl rfl zA (fun _ _ _ h => h) (Or.inl ⟨by rfl, ?_⟩) ?_ ?_
    rotate_left
    ·intro w'
     go_simp
     with_reducible rfl
    rotate_left
    ·exact zP
    refine pure_ (i := 8) (N := some 34) (v := ?_) (a' := ?_) spec_l23Word.m8 rfl rfl zA (fun _ _ _ h => h) (Or.inl ⟨by rfl, ?_⟩) ?_ ?_
    rotate_left
    ·intro w'
     go_simp
     with_reducible rfl
    rotate_left
    ·exact zP
    refine pure_ (i := 10) (N := some 36) (v := ?_) (a' := ?_) spec_l23Word.m9 rfl rfl zA (fun _ _ _ h => h) (Or.inl ⟨by rfl, ?_⟩) ?_ ?_
    rotate_left
    ·intro w'
     go_simp
     with_reducible rfl
    rotate_left
    ·exact zP
    refine pure_ (i := 11) (N := some 37) (v := ?_) (a' := ?_) spec_l23Word.m10 rfl rfl zA (fun _ _ _ h => h) (Or.inl ⟨by rfl, ?_⟩) ?_ ?_
    rotate_left
    ·intro w'
     go_simp
     with_reducible rfl
    rotate_left
    ·exact zP
    refine pure_ (i := 12) (N := some 38) (v := ?_) (a' := ?_) spec_l23Word.m11 rfl rfl zA (fun _ _ _ h => h) (Or.inl ⟨by rfl, ?_⟩) ?_ ?_
    rotate_left
    ·intro w'
     go_simp
     with_reducible rfl
    rotate_left
    ·exact zP
    refine pure_ (i := 13) (N := some 39) (v := ?_) (a' := ?_) spec_l23Word.m12 rfl rfl zA (fun _ _ _ h => h) (Or.inl ⟨by rfl, ?_⟩) ?_ ?_
    rotate_left
    ·intro w'
     go_simp
     with_reducible rfl
    rotate_left
    ·exact zP
    refine take_ (i := 1) (N := some 27) (v := ?_) (a' := ?_) spec_l23Word.m20 rfl rfl (take_ofW HT_.out HW_.out (by kernel_rfl)) (fun _ _ _ h => h) (Or.inl ⟨by rfl, ?_⟩) hHeld ?_ ?_
    rotate_left
    ·rintro w' ⟨s0, s1, s2, s3, s4, s5⟩
     go_simp
     with_reducible rfl
    rotate_left
    ·exact zP
    refine take_ (i := 6) (N := some 32) (v := ?_) (a' := ?_) spec_l23Word.m21 rfl rfl (take_ofW HT_.out HW_.out (by kernel_rfl)) (fun _ _ _ h => h) (Or.inl ⟨by rfl, ?_⟩) hHeld ?_ ?_
    rotate_left
    ·rintro w' ⟨s0, s1, s2, s3, s4, s5⟩
     go_simp
     with_reducible rfl
    rotate_left
    ·exact zP
    refine pure_ (i := 7) (N := some 33) (v := ?_) (a' := ?_) spec_l23Word.m23 rfl rfl zA (fun _ _ _ h => h) (Or.inl ⟨by rfl, ?_⟩) ?_ ?_
    rotate_left
    ·intro w'
     go_simp
     with_reducible rfl
    rotate_left
    ·exact zP
    refine take_ (i := 9) (N := some 35) (v := ?_) (a' := ?_) spec_l23Word.m29 rfl rfl (take_ofW HT_.out HW_.out (by kernel_rfl)) (fun _ _ _ h => h) (Or.inl ⟨by rfl, ?_⟩) hHeld ?_ ?_
    rotate_left
    ·rintro w' ⟨s0, s1, s2, s3, s4, s5⟩
     go_simp
     with_reducible rfl
    rotate_left
    ·exact zP
    refine take_ (i := 14) (N := some 40) (v := ?_) (a' := ?_) spec_l23Word.m30 rfl rfl (take_ofW HT_.out HW_.out (by kernel_rfl)) (fun _ _ _ h => h) (Or.inl ⟨by rfl, ?_⟩) hHeld ?_ ?_
    rotate_left
    ·rintro w' ⟨s0, s1, s2, s3, s4, s5⟩
     go_simp
     with_reducible rfl
    rotate_left
    ·exact zP
    refine pure_ (i := 15) (N := some 41) (v := ?_) (a' := ?_) spec_l23Word.m31 rfl rfl zA (fun _ _ _ h => h) (Or.inl ⟨by rfl, ?_⟩) ?_ ?_
    rotate_left
    ·intro w'
     go_simp
     with_reducible rfl
    rotate_left
    ·exact zP
    refine pure_ (i := 16) (N := some 42) (v := ?_) (a' := ?_) spec_l23Word.m32 rfl rfl zA (fun _ _ _ h => h) (Or.inl ⟨by rfl, ?_⟩) ?_ ?_
    rotate_left
    ·intro w'
     go_simp
     with_reducible rfl
    rotate_left
    ·exact zP
    refine last_ (i := 17) (N := none) spec_l23Word.m33 rfl rfl (one_of HT_.out (by kernel_rfl)) (by decide) (fun K hK => ?_)
    have hs66 : w64.cell? ⟨gb350, 0, none⟩ = some (.int .i64 x351000_1) := (kc BK350.out 0).trans rfl
    have hfs66 := kf BK350.out 0
    have hns66_0 := NB349_350.out
    have hms66_0 := NB350_349.out
    have hs67 : w64.cell? ⟨gb350, 1, none⟩ = some (.int .i64 x351001_1) := (kc BK350.out 1).trans rfl
    have hfs67 := kf BK350.out 1
    have hns67_0 := NB349_350.out
    have hms67_0 := NB350_349.out
    refine skip_ (w1 := ?_) (by rfl) rfl ?_ ?_
    rotate_left
    ·go_simp
     rfl
    refine hK.out _ _ ?_
    clear hK K
    refine done_ (done_of HT_.out (by kernel_rfl)) ?_
    have hnb68 := NB350_349.out
    have hnc68 := NB349_350.out
    have hcz69_0 : w64.cell? ⟨gb350, 0, none⟩ = some (.int .i64 x351000_1) := (kc BK350.out 0).trans rfl
    have hcz69_1 : w64.cell? ⟨gb350, 1, none⟩ = some (.int .i64 x351001_1) := (kc BK350.out 1).trans rfl
    have hfz69_0 := kf BK350.out 0
    have hfz69_1 := kf BK350.out 1
    have hcz70_0 : w64.cell? ⟨gb349, 0, none⟩ = some (.int .i64 ((rd_T42 l0 0).f0)) := (kc BK349.out 0).trans rfl
    have hcz70_1 : w64.cell? ⟨gb349, 1, none⟩ = some (.int .i64 ((rd_T42 l0 0).f1)) := (kc BK349.out 1).trans rfl
    have hfz70_0 := kf BK349.out 0
    have hfz70_1 := kf BK349.out 1
    try go_wp2_with (first | ((with_reducible refine gate_dst (N := 68) rfl ?_); refine Kd.R_lit k42 _ 42 ?hg (N := 68) ?hd (xs := ([(⟨wrap64 (x351000_1 + ((rd_T42 y354 x6_1).f0)), wrap64 ((wrap64 (x351001_1 + ((rd_T42 y354 x6_1).f1))) - 1)⟩ : S42), (⟨wrap64 (x351000_1 + ((rd_T42 y354 x6_1).f0)), wrap64 (x351001_1 + ((rd_T42 y354 x6_1).f1))⟩ : S42), (⟨wrap64 ((wrap64 (x351000_1 + ((rd_T42 y354 x6_1).f0))) - 1), wrap64 (x351001_1 + ((rd_T42 y354 x6_1).f1))⟩ : S42), (⟨wrap64 ((wrap64 (x351000_1 + ((rd_T42 y354 x6_1).f0))) - 1), wrap64 ((wrap64 (x351001_1 + ((rd_T42 y354 x6_1).f1))) - 1)⟩ : S42)] : List (S42))) (inner := [.int .i64 (wrap64 (x351000_1 + ((rd_T42 y354 x6_1).f0))), .int .i64 (wrap64 ((wrap64 (x351001_1 + ((rd_T42 y354 x6_1).f1))) - 1)), .int .i64 (wrap64 (x351000_1 + ((rd_T42 y354 x6_1).f0))), .int .i64 (wrap64 (x351001_1 + ((rd_T42 y354 x6_1).f1))), .int .i64 (wrap64 ((wrap64 (x351000_1 + ((rd_T42 y354 x6_1).f0))) - 1)), .int .i64 (wrap64 (x351001_1 + ((rd_T42 y354 x6_1).f1))), .int .i64 (wrap64 ((wrap64 (x351000_1 + ((rd_T42 y354 x6_1).f0))) - 1)), .int .i64 (wrap64 ((wrap64 (x351001_1 + ((rd_T42 y354 x6_1).f1))) - 1))]) (ok := fun _ => True) (okp := fun _ => True) ?hr ?hp (fun _ hk => hk) trivial (Below.refl _ _) (Nat.le_refl _) (by simp) ?_; (case hd => rfl); (case hg => rfl); (case hr => first | (go_simp; done) | (go_simp; rfl)); (case hp => exact (Reps.c2 (show Kd.M k42 _ _ _ (⟨wrap64 (x351000_1 + ((rd_T42 y354 x6_1).f0)), wrap64 ((wrap64 (x351001_1 + ((rd_T42 y354 x6_1).f1))) - 1)⟩ : S42) [.int .i64 (wrap64 (x351000_1 + ((rd_T42 y354 x6_1).f0))), .int .i64 (wrap64 ((wrap64 (x351001_1 + ((rd_T42 y354 x6_1).f1))) - 1))] from (k42_mkM _ _ _ (⟨wrap64 (x351000_1 + ((rd_T42 y354 x6_1).f0)), wrap64 ((wrap64 (x351001_1 + ((rd_T42 y354 x6_1).f1))) - 1)⟩ : S42) )) (Reps.c2 (show Kd.M k42 _ _ _ (⟨wrap64 (x351000_1 + ((rd_T42 y354 x6_1).f0)), wrap64 (x351001_1 + ((rd_T42 y354 x6_1).f1))⟩ : S42) [.int .i64 (wrap64 (x351000_1 + ((rd_T42 y354 x6_1).f0))), .int .i64 (wrap64 (x351001_1 + ((rd_T42 y354 x6_1).f1)))] from (k42_mkM _ _ _ (⟨wrap64 (x351000_1 + ((rd_T42 y354 x6_1).f0)), wrap64 (x351001_1 + ((rd_T42 y354 x6_1).f1))⟩ : S42) )) (Reps.c2 (show Kd.M k42 _ _ _ (⟨wrap64 ((wrap64 (x351000_1 + ((rd_T42 y354 x6_1).f0))) - 1), wrap64 (x351001_1 + ((rd_T42 y354 x6_1).f1))⟩ : S42) [.int .i64 (wrap64 ((wrap64 (x351000_1 + ((rd_T42 y354 x6_1).f0))) - 1)), .int .i64 (wrap64 (x351001_1 + ((rd_T42 y354 x6_1).f1)))] from (k42_mkM _ _ _ (⟨wrap64 ((wrap64 (x351000_1 + ((rd_T42 y354 x6_1).f0))) - 1), wrap64 (x351001_1 + ((rd_T42 y354 x6_1).f1))⟩ : S42) )) (Reps.c2 (show Kd.M k42 _ _ _ (⟨wrap64 ((wrap64 (x351000_1 + ((rd_T42 y354 x6_1).f0))) - 1), wrap64 ((wrap64 (x351001_1 + ((rd_T42 y354 x6_1).f1))) - 1)⟩ : S42) [.int .i64 (wrap64 ((wrap64 (x351000_1 + ((rd_T42 y354 x6_1).f0))) - 1)), .int .i64 (wrap64 ((wrap64 (x351001_1 + ((rd_T42 y354 x6_1).f1))) - 1))] from (k42_mkM _ _ _ (⟨wrap64 ((wrap64 (x351000_1 + ((rd_T42 y354 x6_1).f0))) - 1), wrap64 ((wrap64 (x351001_1 + ((rd_T42 y354 x6_1).f1))) - 1)⟩ : S42) )) (Reps.none _ _)))))); intro v360 w71 ho72 hb hg_ hnew_; clear hg_ hnew_; (first | rw [← Ny359.out] at ho72 | (simp only [Int.reduceToNat] at ho72; rw [← Ny359.out] at ho72)); have n0_ := am (Kd.R_below (by (with_reducible repeat (first | apply Kd.R_alloc | apply Kd.R_drewN | apply Kd.R_drew)); exact (Kd.R_mono (Kd.R_far (p := ⟨gb350, 1, none⟩) (Kd.R_far (p := ⟨gb350, 0, none⟩) (Kd.R_types HO353.out BK350.out (by decide)) (fun _ hk => hk.2) (.int .i64 (wrap64 (x351000_1 + ((rd_T42 y354 x6_1).f0))))) (fun _ hk => hk.2) (.int .i64 (wrap64 (x351001_1 + ((rd_T42 y354 x6_1).f1))))) (fun _ h_ => h_.1))) hb); have n1_ := am (Kd.R_elder' (by (with_reducible repeat (first | apply Kd.R_alloc | apply Kd.R_drewN | apply Kd.R_drew)); exact (Kd.R_mono (Kd.R_far (p := ⟨gb350, 1, none⟩) (Kd.R_far (p := ⟨gb350, 0, none⟩) (Kd.R_mono HO356.out (fun k_ hk => (⟨hk, hk.2⟩ : _ ∧ k_ ≠ gb350))) (fun _ hk => hk.2) (.int .i64 (wrap64 (x351000_1 + ((rd_T42 y354 x6_1).f0))))) (fun _ hk => hk.2) (.int .i64 (wrap64 (x351001_1 + ((rd_T42 y354 x6_1).f1))))) (fun _ h_ => h_.1))) (Kd.R_base ho72) hb); have n2_ := am (Kd.R_lower (Kd.R_newB (Kd.R_newB (Kd.R_new' ho72 (Kd.R_lt (by (with_reducible repeat (first | apply Kd.R_alloc | apply Kd.R_drewN | apply Kd.R_drew)); exact (Kd.R_mono (Kd.R_far (p := ⟨gb350, 1, none⟩) (Kd.R_far (p := ⟨gb350, 0, none⟩) (Kd.R_mono HO356.out (fun k_ hk => (⟨hk, hk.2⟩ : _ ∧ k_ ≠ gb350))) (fun _ hk => hk.2) (.int .i64 (wrap64 (x351000_1 + ((rd_T42 y354 x6_1).f0))))) (fun _ hk => hk.2) (.int .i64 (wrap64 (x351001_1 + ((rd_T42 y354 x6_1).f1))))) (fun _ h_ => h_.1))))) (g := gb349) (o := .cells #[.int .i64 ((rd_T42 l0 0).f0), .int .i64 ((rd_T42 l0 0).f1)] 42 (0, 0)) (by (with_reducible repeat (first | refine Bk2 ?_ _ | refine Bk3 ?_ | refine Bk1 ?_ _)); refine blk_far ?_ NB349_350.out _; (with_reducible repeat (first | refine Bk2 ?_ _ | refine Bk3 ?_ | refine Bk1 ?_ _)); refine blk_far ?_ NB349_350.out _; (with_reducible repeat (first | refine Bk2 ?_ _ | refine Bk3 ?_ | refine Bk1 ?_ _)); exact BK349.out)) (g := gb350) (o := .cells #[.int .i64 (wrap64 (x351000_1 + ((rd_T42 y354 x6_1).f0))), .int .i64 (wrap64 (x351001_1 + ((rd_T42 y354 x6_1).f1)))] 42 (0, 0)) (by (with_reducible repeat (first | refine Bk2 ?_ _ | refine Bk3 ?_ | refine Bk1 ?_ _)); refine blk_put (cs := #[.int .i64 (wrap64 (x351000_1 + ((rd_T42 y354 x6_1).f0))), .int .i64 x351001_1]) ?_ 1 _ rfl; (with_reducible repeat (first | refine Bk2 ?_ _ | refine Bk3 ?_ | refine Bk1 ?_ _)); refine blk_put (cs := #[.int .i64 x351000_1, .int .i64 x351001_1]) ?_ 0 _ rfl; (with_reducible repeat (first | refine Bk2 ?_ _ | refine Bk3 ?_ | refine Bk1 ?_ _)); exact BK350.out)) (Bb5 (by repeat (first | (with_reducible first | exact HB.out | apply Bb1 | apply Bb2 | apply Bb3 | refine Bb4 ?_ GE349.out | refine Bb4 ?_ GE350.out) | exact HB.out)))); have n3_ := am (Bk4 (g := gb349) (o := .cells #[.int .i64 ((rd_T42 l0 0).f0), .int .i64 ((rd_T42 l0 0).f1)] 42 (0, 0)) (by (with_reducible repeat (first | refine Bk2 ?_ _ | refine Bk3 ?_ | refine Bk1 ?_ _)); refine blk_far ?_ NB349_350.out _; (with_reducible repeat (first | refine Bk2 ?_ _ | refine Bk3 ?_ | refine Bk1 ?_ _)); refine blk_far ?_ NB349_350.out _; (with_reducible repeat (first | refine Bk2 ?_ _ | refine Bk3 ?_ | refine Bk1 ?_ _)); exact BK349.out) hb); have n4_ := am (Bk4 (g := gb350) (o := .cells #[.int .i64 (wrap64 (x351000_1 + ((rd_T42 y354 x6_1).f0))), .int .i64 (wrap64 (x351001_1 + ((rd_T42 y354 x6_1).f1)))] 42 (0, 0)) (by (with_reducible repeat (first | refine Bk2 ?_ _ | refine Bk3 ?_ | refine Bk1 ?_ _)); refine blk_put (cs := #[.int .i64 (wrap64 (x351000_1 + ((rd_T42 y354 x6_1).f0))), .int .i64 x351001_1]) ?_ 1 _ rfl; (with_reducible repeat (first | refine Bk2 ?_ _ | refine Bk3 ?_ | refine Bk1 ?_ _)); refine blk_put (cs := #[.int .i64 x351000_1, .int .i64 x351001_1]) ?_ 0 _ rfl; (with_reducible repeat (first | refine Bk2 ?_ _ | refine Bk3 ?_ | refine Bk1 ?_ _)); exact BK350.out) hb); have n5_ := am (Bb6 (by repeat (first | (with_reducible first | exact HB.out | apply Bb1 | apply Bb2 | apply Bb3 | refine Bb4 ?_ GE349.out | refine Bb4 ?_ GE350.out) | exact HB.out)) hb); clear HO353; clear HO356; clear BK349; clear BK350; clear HB; have HO353 := n0_; have HO356 := n1_; have HO361 := n2_; have BK349 := n3_; have BK350 := n4_; have HB := n5_; clear n0_ n1_ n2_ n3_ n4_ n5_; clear hb ho72))
    have n0_ := am (Kd.R_drew HO353.out)
    have n1_ := am (Kd.R_drew HO356.out)
    have n2_ := am (Kd.R_drew HO361.out)
    have n3_ := am (Bk3 BK349.out)
    have n4_ := am (Bk3 BK350.out)
    have n5_ := am (Bb3 HB.out)
    clear HO353
    clear HO356
    clear HO361
    clear BK349
    clear BK350
    clear HB
    have HO353 := n0_
    have HO356 := n1_
    have HO361 := n2_
    have BK349 := n3_
    have BK350 := n4_
    have HB := n5_
    clear n0_ n1_ n2_ n3_ n4_ n5_
    obtain ⟨Ao74, co74, eo74⟩ := Kd.R_slice HO361.out
    (first | subst eo74 | (injection eo74 with f1_ f2_ f3_; have f4_ := f1_.symm; have f5_ := f3_.symm; clear f1_ f2_ f3_; subst f4_; subst f5_))
    have p362 : 0 ≤ (x6_1 : Int) := zD
    have q362 : x6_1 < (y359.length : Int) := zD
    obtain ⟨ad362, e362, hx362_0, hx362_1⟩ := at_T42 (Kd.R_reads' HO361.out).2.2 x6_1 p362 q362
    cases e362
    replace p362 := eq_true p362
    replace q362 := eq_true q362
    have p363 : 0 ≤ ((ji28) : Int) := zD
    have q363 : (ji28) < (y359.length : Int) := zD
    obtain ⟨ad363, e363, hx363_0, hx363_1⟩ := at_T42 (Kd.R_reads' HO361.out).2.2 (ji28) p363 q363
    obtain rfl : ad362 = ad363 := (by injection e363)
    replace p363 := eq_true p363
    replace q363 := eq_true q363
    refine start_ (n := 14) (S := fun w' => w'.cell? (ad362.add ((x6_1).toNat * 2)) = some (.int .i64 ((rd_T42 y359 x6_1).f0)) ∧ w'.cell? ⟨(ad362.add ((x6_1).toNat * 2)).block, (ad362.add ((x6_1).toNat * 2)).off + 1, none⟩ = some (.int .i64 ((rd_T42 y359 x6_1).f1)) ∧ w'.cell? (ad362.add (((ji28)).toNat * 2)) = some (.int .i64 ((rd_T42 y359 (ji28)).f0)) ∧ w'.cell? ⟨(ad362.add (((ji28)).toNat * 2)).block, (ad362.add (((ji28)).toNat * 2)).off + 1, none⟩ = some (.int .i64 ((rd_T42 y359 (ji28)).f1))) (ds := []) spec_l23Word.m1 (by kernel_rfl) rfl rfl ⟨hx362_0, hx362_1, hx363_0, hx363_1⟩ (fun hHeld => ?_); refine with_tabW spec_l23Word.tab11 spec_l23Word.bits11 (fun HT_ HW_ => ?_)
    generalize w71.drew = w73 at HO353 HO356 HO361 BK349 BK350 HB hx362_0 hx362_1 hx363_0 hx363_1 hHeld ⊢
    refine pure_ (i := 0) (N := some 69) (v := ?_) (a' := ?_) spec_l23Word.m3 rfl rfl zA (fun _ _ _ h => h) (Or.inl ⟨by rfl, ?_⟩) ?_ ?_
    rotate_left
    ·intro w'
     go_simp
     with_reducible rfl
    rotate_left
    ·exact zP
    refine pure_ (i := 1) (N := some 70) (v := ?_) (a' := ?_) spec_l23Word.m13 rfl rfl zA (fun _ _ _ h => h) (Or.inl ⟨by rfl, ?_⟩) ?_ ?_
    rotate_left
    ·intro w'
     go_simp
     with_reducible rfl
    rotate_left
    ·exact zP
    refine pure_ (i := 2) (N := some 71) (v := ?_) (a' := ?_) spec_l23Word.m14 rfl rfl zA (fun _ _ _ h => h) (Or.inl ⟨by rfl, ?_⟩) ?_ ?_
    rotate_left
    ·intro w'
     go_simp
     with_reducible rfl
    rotate_left
    ·exact zP
    refine pure_ (i := 4) (N := some 73) (v := ?_) (a' := ?_) spec_l23Word.m15 rfl rfl zA (fun _ _ _ h => h) (Or.inl ⟨by rfl, ?_⟩) ?_ ?_
    rotate_left
    ·intro w'
     go_simp
     with_reducible rfl
    rotate_left
    ·exact zP
    refine pure_ (i := 5) (N := some 74) (v := ?_) (a' := ?_) spec_l23Word.m16 rfl rfl zA (fun _ _ _ h => h) (Or.inl ⟨by rfl, ?_⟩) ?_ ?_
    rotate_left
    ·intro w'
     go_simp
     with_reducible rfl
    rotate_left
    ·exact zP
    refine pure_ (i := 6) (N := some 75) (v := ?_) (a' := ?_) spec_l23Word.m17 rfl rfl zA (fun _ _ _ h => h) (Or.inl ⟨by rfl, ?_⟩) ?_ ?_
    rotate_left
    ·intro w'
     go_simp
     with_reducible rfl
    rotate_left
    ·exact zP
    refine pure_ (i := 7) (N := some 76) (v := ?_) (a' := ?_) spec_l23Word.m18 rfl rfl zA (fun _ _ _ h => h) (Or.inl ⟨by rfl, ?_⟩) ?_ ?_
    rotate_left
    ·intro w'
     go_simp
     with_reducible rfl
    rotate_left
    ·exact zP
    refine pure_ (i := 8) (N := some 77) (v := ?_) (a' := ?_) spec_l23Word.m19 rfl rfl zA (fun _ _ _ h => h) (Or.inl ⟨by rfl, ?_⟩) ?_ ?_
    rotate_left
    ·intro w'
     go_simp
     with_reducible rfl
    rotate_left
    ·exact zP
    refine take_ (i := 3) (N := some 72) (v := ?_) (a' := ?_) spec_l23Word.m22 rfl rfl (take_ofW HT_.out HW_.out (by kernel_rfl)) (fun _ _ _ h => h) (Or.inl ⟨by rfl, ?_⟩) hHeld ?_ ?_
    rotate_left
    ·rintro w' ⟨s0, s1, s2, s3⟩
     go_simp
     with_reducible rfl
    rotate_left
    ·exact zP
    refine take_ (i := 9) (N := some 78) (v := ?_) (a' := ?_) spec_l23Word.m24 rfl rfl (take_ofW HT_.out HW_.out (by kernel_rfl)) (fun _ _ _ h => h) (Or.inl ⟨by rfl, ?_⟩) hHeld ?_ ?_
    rotate_left
    ·rintro w' ⟨s0, s1, s2, s3⟩
     go_simp
     with_reducible rfl
    rotate_left
    ·exact zP
    refine join_ (σ := Nat × Nat) 2 spec_l23Word.m27 (fun s_ => [(9, .pointer (some ⟨s_.1, 0, none⟩)), (10, .pointer (some ⟨s_.2, 0, none⟩))]) (fun s_ w' => (w'.cell? (ad362.add ((x6_1).toNat * 2)) = some (.int .i64 ((rd_T42 y359 x6_1).f0)) ∧ w'.cell? ⟨(ad362.add ((x6_1).toNat * 2)).block, (ad362.add ((x6_1).toNat * 2)).off + 1, none⟩ = some (.int .i64 ((rd_T42 y359 x6_1).f1)) ∧ w'.cell? (ad362.add (((ji28)).toNat * 2)) = some (.int .i64 ((rd_T42 y359 (ji28)).f0)) ∧ w'.cell? ⟨(ad362.add (((ji28)).toNat * 2)).block, (ad362.add (((ji28)).toNat * 2)).off + 1, none⟩ = some (.int .i64 ((rd_T42 y359 (ji28)).f1))) ∧ (Kd.R (Kd.int .u8) 5 w' w.heap.size (fun _ => True) v352 y351) ∧ (Kd.R k42 42 w' w.heap.size (fun k_ => some k_ ≠ (.slice (some ad362) y359.length co74 : Value).ownBlock ∧ k_ ≠ gb349 ∧ k_ ≠ gb350 ∧ k_ ≠ s_.1 ∧ k_ ≠ s_.2) (.slice (some ad357) y354.length co65) y354) ∧ (Kd.R k42 42 w' w.heap.size (fun k_ => some k_ ≠ (.slice (some ad357) y354.length co65 : Value).ownBlock ∧ k_ ≠ gb349 ∧ k_ ≠ gb350 ∧ k_ ≠ s_.1 ∧ k_ ≠ s_.2) (.slice (some ad362) y359.length co74) y359) ∧ (w'.heap[gb349]? = some (.cells #[.int .i64 ((rd_T42 l0 0).f0), .int .i64 ((rd_T42 l0 0).f1)] 42 (0, 0))) ∧ (w'.heap[gb350]? = some (.cells #[.int .i64 (wrap64 (x351000_1 + ((rd_T42 y354 x6_1).f0))), .int .i64 (wrap64 (x351001_1 + ((rd_T42 y354 x6_1).f1)))] 42 (0, 0))) ∧ (w'.heap[s_.1]? = some (.cells #[.int .i64 0, .int .i64 0] 42 (0, 0))) ∧ (w'.heap[s_.2]? = some (.cells #[.int .i64 0, .int .i64 0] 42 (0, 0))) ∧ (w.heap.size ≤ s_.1) ∧ (w.heap.size ≤ s_.1) ∧ (gb349 ≠ s_.1) ∧ (s_.1 ≠ gb349) ∧ (gb350 ≠ s_.1) ∧ (s_.1 ≠ gb350) ∧ (s_.2 ≠ s_.1) ∧ (s_.1 ≠ s_.2) ∧ (w.heap.size ≤ s_.2) ∧ (w.heap.size ≤ s_.2) ∧ (gb349 ≠ s_.2) ∧ (s_.2 ≠ gb349) ∧ (gb350 ≠ s_.2) ∧ (s_.2 ≠ gb350) ∧ (Below w.heap.size w w')) ?_ ?_
    rotate_left
    ·intro hCont
     refine two_ (i := 10) (j := 11) (Ni := some 9) (Nj := some 10) spec_l23Word.m26 spec_l23Word.m25 rfl rfl rfl rfl (two_of HT_.out (by kernel_rfl)) (by decide) (by decide) (fun K hK => ?_) (fun K hK => ?_)
     ·skip
      refine box_step ?hg (N := 9) ?hd (cs := #[.int .i64 0, .int .i64 0]) (t := 42) ?hr ?_; (case hd => rfl); (case hg => rfl); (case hr => first | (go_simp; done) | (go_simp; rfl))
      intro gb364 hg w75 hbox hb
      have HS0_ := (hb.cell (World.block_lt_of_cell? _ _ (hHeld.1))).trans (hHeld.1)
      have HS1_ := (hb.cell (World.block_lt_of_cell? _ _ (hHeld.2.1))).trans (hHeld.2.1)
      have HS2_ := (hb.cell (World.block_lt_of_cell? _ _ (hHeld.2.2.1))).trans (hHeld.2.2.1)
      have HS3_ := (hb.cell (World.block_lt_of_cell? _ _ (hHeld.2.2.2))).trans (hHeld.2.2.2)
      have n0_ := am (Kd.R_below (zR HO353) hb)
      have n1_ := am (Kd.R_below (Kd.R_elderB (zR HO356) gb364 (Nat.le_of_eq hg.symm)) hb)
      have n2_ := am (Kd.R_below (Kd.R_elderB (zR HO361) gb364 (Nat.le_of_eq hg.symm)) hb)
      have n3_ := am (Bk4 (g := gb349) (o := .cells #[.int .i64 ((rd_T42 l0 0).f0), .int .i64 ((rd_T42 l0 0).f1)] 42 (0, 0)) (zK BK349) hb)
      have n4_ := am (Bk4 (g := gb350) (o := .cells #[.int .i64 (wrap64 (x351000_1 + ((rd_T42 y354 x6_1).f0))), .int .i64 (wrap64 (x351001_1 + ((rd_T42 y354 x6_1).f1)))] 42 (0, 0)) (zK BK350) hb)
      have n5_ := am (Bb6 (by repeat (first | (with_reducible first | exact HB.out | apply Bb1 | apply Bb2 | apply Bb3 | refine Bb4 ?_ GE349.out | refine Bb4 ?_ GE350.out) | exact HB.out)) hb)
      have n6_ := am (hbox)
      have n7_ := am ((by rw [hg]; exact (Bb5 (by repeat (first | (with_reducible first | exact HB.out | apply Bb1 | apply Bb2 | apply Bb3 | refine Bb4 ?_ GE349.out | refine Bb4 ?_ GE350.out) | exact HB.out))) : w.heap.size ≤ gb364))
      have n8_ := am ((by rw [hg]; exact (Bb5 (by repeat (first | (with_reducible first | exact HB.out | apply Bb1 | apply Bb2 | apply Bb3 | refine Bb4 ?_ GE349.out | refine Bb4 ?_ GE350.out) | exact HB.out))) : w.heap.size ≤ gb364))
      have n9_ := am ((by rw [hg]; exact nl (Bk5 (g := gb349) (o := .cells #[.int .i64 ((rd_T42 l0 0).f0), .int .i64 ((rd_T42 l0 0).f1)] 42 (0, 0)) (zK BK349)) : gb349 ≠ gb364))
      have n10_ := am ((by rw [hg]; exact ng (Bk5 (g := gb349) (o := .cells #[.int .i64 ((rd_T42 l0 0).f0), .int .i64 ((rd_T42 l0 0).f1)] 42 (0, 0)) (zK BK349)) : gb364 ≠ gb349))
      have n11_ := am ((by rw [hg]; exact nl (Bk5 (g := gb350) (o := .cells #[.int .i64 (wrap64 (x351000_1 + ((rd_T42 y354 x6_1).f0))), .int .i64 (wrap64 (x351001_1 + ((rd_T42 y354 x6_1).f1)))] 42 (0, 0)) (zK BK350)) : gb350 ≠ gb364))
      have n12_ := am ((by rw [hg]; exact ng (Bk5 (g := gb350) (o := .cells #[.int .i64 (wrap64 (x351000_1 + ((rd_T42 y354 x6_1).f0))), .int .i64 (wrap64 (x351001_1 + ((rd_T42 y354 x6_1).f1)))] 42 (0, 0)) (zK BK350)) : gb364 ≠ gb350))
      clear HO353
      clear HO356
      clear HO361
      clear BK349
      clear BK350
      clear HB
      have HO353 := n0_
      have HO356 := n1_
      have HO361 := n2_
      have BK349 := n3_
      have BK350 := n4_
      have HB := n5_
      have BK364 := n6_
      have GW364 := n7_
      have GE364 := n8_
      have NB349_364 := n9_
      have NB364_349 := n10_
      have NB350_364 := n11_
      have NB364_350 := n12_
      clear n0_ n1_ n2_ n3_ n4_ n5_ n6_ n7_ n8_ n9_ n10_ n11_ n12_
      clear hb hbox hg
      refine hK.out _ _ ⟨HS0_, HS1_, HS2_, HS3_⟩ (fun hHeld => ?_)
      clear hK K
      refine norm_ (a' := ?_) ?_ ?_
      rotate_left
      ·show Act.put _ (some 9) _ = _
       simp only [Act.put, sa, i64_w, i32_w]
       rfl
      refine one_ (i := 11) (N := some 10) spec_l23Word.m27 rfl rfl (one_of HT_.out (by kernel_rfl)) (by decide) (fun K hK => ?_)
      refine box_step ?hg (N := 10) ?hd (cs := #[.int .i64 0, .int .i64 0]) (t := 42) ?hr ?_; (case hd => rfl); (case hg => rfl); (case hr => first | (go_simp; done) | (go_simp; rfl))
      intro gb365 hg w76 hbox hb
      have HS0_ := (hb.cell (World.block_lt_of_cell? _ _ (hHeld.1))).trans (hHeld.1)
      have HS1_ := (hb.cell (World.block_lt_of_cell? _ _ (hHeld.2.1))).trans (hHeld.2.1)
      have HS2_ := (hb.cell (World.block_lt_of_cell? _ _ (hHeld.2.2.1))).trans (hHeld.2.2.1)
      have HS3_ := (hb.cell (World.block_lt_of_cell? _ _ (hHeld.2.2.2))).trans (hHeld.2.2.2)
      have n0_ := am (Kd.R_below (zR HO353) hb)
      have n1_ := am (Kd.R_below (Kd.R_elderB (zR HO356) gb365 (Nat.le_of_eq hg.symm)) hb)
      have n2_ := am (Kd.R_below (Kd.R_elderB (zR HO361) gb365 (Nat.le_of_eq hg.symm)) hb)
      have n3_ := am (Bk4 (g := gb349) (o := .cells #[.int .i64 ((rd_T42 l0 0).f0), .int .i64 ((rd_T42 l0 0).f1)] 42 (0, 0)) (zK BK349) hb)
      have n4_ := am (Bk4 (g := gb350) (o := .cells #[.int .i64 (wrap64 (x351000_1 + ((rd_T42 y354 x6_1).f0))), .int .i64 (wrap64 (x351001_1 + ((rd_T42 y354 x6_1).f1)))] 42 (0, 0)) (zK BK350) hb)
      have n5_ := am (Bk4 (g := gb364) (o := .cells #[.int .i64 0, .int .i64 0] 42 (0, 0)) (zK BK364) hb)
      have n6_ := am (Bb6 (by repeat (first | (with_reducible first | exact HB.out | apply Bb1 | apply Bb2 | apply Bb3 | refine Bb4 ?_ GE349.out | refine Bb4 ?_ GE350.out | refine Bb4 ?_ GE364.out) | exact HB.out)) hb)
      have n7_ := am (hbox)
      have n8_ := am ((by rw [hg]; exact (Bb5 (by repeat (first | (with_reducible first | exact HB.out | apply Bb1 | apply Bb2 | apply Bb3 | refine Bb4 ?_ GE349.out | refine Bb4 ?_ GE350.out | refine Bb4 ?_ GE364.out) | exact HB.out))) : w.heap.size ≤ gb365))
      have n9_ := am ((by rw [hg]; exact (Bb5 (by repeat (first | (with_reducible first | exact HB.out | apply Bb1 | apply Bb2 | apply Bb3 | refine Bb4 ?_ GE349.out | refine Bb4 ?_ GE350.out | refine Bb4 ?_ GE364.out) | exact HB.out))) : w.heap.size ≤ gb365))
      have n10_ := am ((by rw [hg]; exact nl (Bk5 (g := gb349) (o := .cells #[.int .i64 ((rd_T42 l0 0).f0), .int .i64 ((rd_T42 l0 0).f1)] 42 (0, 0)) (zK BK349)) : gb349 ≠ gb365))
      have n11_ := am ((by rw [hg]; exact ng (Bk5 (g := gb349) (o := .cells #[.int .i64 ((rd_T42 l0 0).f0), .int .i64 ((rd_T42 l0 0).f1)] 42 (0, 0)) (zK BK349)) : gb365 ≠ gb349))
      have n12_ := am ((by rw [hg]; exact nl (Bk5 (g := gb350) (o := .cells #[.int .i64 (wrap64 (x351000_1 + ((rd_T42 y354 x6_1).f0))), .int .i64 (wrap64 (x351001_1 + ((rd_T42 y354 x6_1).f1)))] 42 (0, 0)) (zK BK350)) : gb350 ≠ gb365))
      have n13_ := am ((by rw [hg]; exact ng (Bk5 (g := gb350) (o := .cells #[.int .i64 (wrap64 (x351000_1 + ((rd_T42 y354 x6_1).f0))), .int .i64 (wrap64 (x351001_1 + ((rd_T42 y354 x6_1).f1)))] 42 (0, 0)) (zK BK350)) : gb365 ≠ gb350))
      have n14_ := am ((by rw [hg]; exact nl (Bk5 (g := gb364) (o := .cells #[.int .i64 0, .int .i64 0] 42 (0, 0)) (zK BK364)) : gb364 ≠ gb365))
      have n15_ := am ((by rw [hg]; exact ng (Bk5 (g := gb364) (o := .cells #[.int .i64 0, .int .i64 0] 42 (0, 0)) (zK BK364)) : gb365 ≠ gb364))
      clear HO353
      clear HO356
      clear HO361
      clear BK349
      clear BK350
      clear BK364
      clear HB
      have HO353 := n0_
      have HO356 := n1_
      have HO361 := n2_
      have BK349 := n3_
      have BK350 := n4_
      have BK364 := n5_
      have HB := n6_
      have BK365 := n7_
      have GW365 := n8_
      have GE365 := n9_
      have NB349_365 := n10_
      have NB365_349 := n11_
      have NB350_365 := n12_
      have NB365_350 := n13_
      have NB364_365 := n14_
      have NB365_364 := n15_
      clear n0_ n1_ n2_ n3_ n4_ n5_ n6_ n7_ n8_ n9_ n10_ n11_ n12_ n13_ n14_ n15_
      clear hb hbox hg
      refine hK.out _ _ ⟨HS0_, HS1_, HS2_, HS3_⟩ (fun hHeld => ?_)
      clear hK K
      refine norm_ (a' := ?_) ?_ ?_
      rotate_left
      ·show Act.put _ (some 10) _ = _
       simp only [Act.put, sa, i64_w, i32_w]
       rfl
      exact norm_ (by simp only [putAll, Act.put, sa]) (hCont (gb364, gb365) _ ⟨hHeld, (zR HO353), (by (with_reducible repeat (first | apply Kd.R_alloc | apply Kd.R_drewN | apply Kd.R_drew)); exact Kd.R_mono HO356.out (fun _ hk => ⟨hk.1.1.2, ⟨hk.1.1.1.1.2, ⟨hk.1.1.1.2, ⟨hk.1.2, hk.2⟩⟩⟩⟩)), (by (with_reducible repeat (first | apply Kd.R_alloc | apply Kd.R_drewN | apply Kd.R_drew)); exact Kd.R_mono HO361.out (fun _ hk => ⟨hk.1.1.1.1.2, ⟨hk.1.1.1.2, ⟨hk.1.1.2, ⟨hk.1.2, hk.2⟩⟩⟩⟩)), (zK BK349), (zK BK350), (zK BK364), (zK BK365), GW364.out, GE364.out, NB349_364.out, NB364_349.out, NB350_364.out, NB364_350.out, NB365_364.out, NB364_365.out, GW365.out, GE365.out, NB349_365.out, NB365_349.out, NB350_365.out, NB365_350.out, (by repeat (first | (with_reducible first | exact HB.out | apply Bb1 | apply Bb2 | apply Bb3 | refine Bb4 ?_ GE349.out | refine Bb4 ?_ GE350.out | refine Bb4 ?_ GE364.out | refine Bb4 ?_ GE365.out) | exact HB.out))⟩)
     skip
     refine box_step ?hg (N := 10) ?hd (cs := #[.int .i64 0, .int .i64 0]) (t := 42) ?hr ?_; (case hd => rfl); (case hg => rfl); (case hr => first | (go_simp; done) | (go_simp; rfl))
     intro gb365 hg w75 hbox hb
     have HS0_ := (hb.cell (World.block_lt_of_cell? _ _ (hHeld.1))).trans (hHeld.1)
     have HS1_ := (hb.cell (World.block_lt_of_cell? _ _ (hHeld.2.1))).trans (hHeld.2.1)
     have HS2_ := (hb.cell (World.block_lt_of_cell? _ _ (hHeld.2.2.1))).trans (hHeld.2.2.1)
     have HS3_ := (hb.cell (World.block_lt_of_cell? _ _ (hHeld.2.2.2))).trans (hHeld.2.2.2)
     have n0_ := am (Kd.R_below (zR HO353) hb)
     have n1_ := am (Kd.R_below (Kd.R_elderB (zR HO356) gb365 (Nat.le_of_eq hg.symm)) hb)
     have n2_ := am (Kd.R_below (Kd.R_elderB (zR HO361) gb365 (Nat.le_of_eq hg.symm)) hb)
     have n3_ := am (Bk4 (g := gb349) (o := .cells #[.int .i64 ((rd_T42 l0 0).f0), .int .i64 ((rd_T42 l0 0).f1)] 42 (0, 0)) (zK BK349) hb)
     have n4_ := am (Bk4 (g := gb350) (o := .cells #[.int .i64 (wrap64 (x351000_1 + ((rd_T42 y354 x6_1).f0))), .int .i64 (wrap64 (x351001_1 + ((rd_T42 y354 x6_1).f1)))] 42 (0, 0)) (zK BK350) hb)
     have n5_ := am (Bb6 (by repeat (first | (with_reducible first | exact HB.out | apply Bb1 | apply Bb2 | apply Bb3 | refine Bb4 ?_ GE349.out | refine Bb4 ?_ GE350.out) | exact HB.out)) hb)
     have n6_ := am (hbox)
     have n7_ := am ((by rw [hg]; exact (Bb5 (by repeat (first | (with_reducible first | exact HB.out | apply Bb1 | apply Bb2 | apply Bb3 | refine Bb4 ?_ GE349.out | refine Bb4 ?_ GE350.out) | exact HB.out))) : w.heap.size ≤ gb365))
     have n8_ := am ((by rw [hg]; exact (Bb5 (by repeat (first | (with_reducible first | exact HB.out | apply Bb1 | apply Bb2 | apply Bb3 | refine Bb4 ?_ GE349.out | refine Bb4 ?_ GE350.out) | exact HB.out))) : w.heap.size ≤ gb365))
     have n9_ := am ((by rw [hg]; exact nl (Bk5 (g := gb349) (o := .cells #[.int .i64 ((rd_T42 l0 0).f0), .int .i64 ((rd_T42 l0 0).f1)] 42 (0, 0)) (zK BK349)) : gb349 ≠ gb365))
     have n10_ := am ((by rw [hg]; exact ng (Bk5 (g := gb349) (o := .cells #[.int .i64 ((rd_T42 l0 0).f0), .int .i64 ((rd_T42 l0 0).f1)] 42 (0, 0)) (zK BK349)) : gb365 ≠ gb349))
     have n11_ := am ((by rw [hg]; exact nl (Bk5 (g := gb350) (o := .cells #[.int .i64 (wrap64 (x351000_1 + ((rd_T42 y354 x6_1).f0))), .int .i64 (wrap64 (x351001_1 + ((rd_T42 y354 x6_1).f1)))] 42 (0, 0)) (zK BK350)) : gb350 ≠ gb365))
     have n12_ := am ((by rw [hg]; exact ng (Bk5 (g := gb350) (o := .cells #[.int .i64 (wrap64 (x351000_1 + ((rd_T42 y354 x6_1).f0))), .int .i64 (wrap64 (x351001_1 + ((rd_T42 y354 x6_1).f1)))] 42 (0, 0)) (zK BK350)) : gb365 ≠ gb350))
     clear HO353
     clear HO356
     clear HO361
     clear BK349
     clear BK350
     clear HB
     have HO353 := n0_
     have HO356 := n1_
     have HO361 := n2_
     have BK349 := n3_
     have BK350 := n4_
     have HB := n5_
     have BK365 := n6_
     have GW365 := n7_
     have GE365 := n8_
     have NB349_365 := n9_
     have NB365_349 := n10_
     have NB350_365 := n11_
     have NB365_350 := n12_
     clear n0_ n1_ n2_ n3_ n4_ n5_ n6_ n7_ n8_ n9_ n10_ n11_ n12_
     clear hb hbox hg
     refine hK.out _ _ ⟨HS0_, HS1_, HS2_, HS3_⟩ (fun hHeld => ?_)
     clear hK K
     refine norm_ (a' := ?_) ?_ ?_
     rotate_left
     ·show Act.put _ (some 10) _ = _
      simp only [Act.put, sa, i64_w, i32_w]
      rfl
     refine one_ (i := 10) (N := some 9) spec_l23Word.m27 rfl rfl (one_of HT_.out (by kernel_rfl)) (by decide) (fun K hK => ?_)
     refine box_step ?hg (N := 9) ?hd (cs := #[.int .i64 0, .int .i64 0]) (t := 42) ?hr ?_; (case hd => rfl); (case hg => rfl); (case hr => first | (go_simp; done) | (go_simp; rfl))
     intro gb364 hg w76 hbox hb
     have HS0_ := (hb.cell (World.block_lt_of_cell? _ _ (hHeld.1))).trans (hHeld.1)
     have HS1_ := (hb.cell (World.block_lt_of_cell? _ _ (hHeld.2.1))).trans (hHeld.2.1)
     have HS2_ := (hb.cell (World.block_lt_of_cell? _ _ (hHeld.2.2.1))).trans (hHeld.2.2.1)
     have HS3_ := (hb.cell (World.block_lt_of_cell? _ _ (hHeld.2.2.2))).trans (hHeld.2.2.2)
     have n0_ := am (Kd.R_below (zR HO353) hb)
     have n1_ := am (Kd.R_below (Kd.R_elderB (zR HO356) gb364 (Nat.le_of_eq hg.symm)) hb)
     have n2_ := am (Kd.R_below (Kd.R_elderB (zR HO361) gb364 (Nat.le_of_eq hg.symm)) hb)
     have n3_ := am (Bk4 (g := gb349) (o := .cells #[.int .i64 ((rd_T42 l0 0).f0), .int .i64 ((rd_T42 l0 0).f1)] 42 (0, 0)) (zK BK349) hb)
     have n4_ := am (Bk4 (g := gb350) (o := .cells #[.int .i64 (wrap64 (x351000_1 + ((rd_T42 y354 x6_1).f0))), .int .i64 (wrap64 (x351001_1 + ((rd_T42 y354 x6_1).f1)))] 42 (0, 0)) (zK BK350) hb)
     have n5_ := am (Bk4 (g := gb365) (o := .cells #[.int .i64 0, .int .i64 0] 42 (0, 0)) (zK BK365) hb)
     have n6_ := am (Bb6 (by repeat (first | (with_reducible first | exact HB.out | apply Bb1 | apply Bb2 | apply Bb3 | refine Bb4 ?_ GE349.out | refine Bb4 ?_ GE350.out | refine Bb4 ?_ GE365.out) | exact HB.out)) hb)
     have n7_ := am (hbox)
     have n8_ := am ((by rw [hg]; exact (Bb5 (by repeat (first | (with_reducible first | exact HB.out | apply Bb1 | apply Bb2 | apply Bb3 | refine Bb4 ?_ GE349.out | refine Bb4 ?_ GE350.out | refine Bb4 ?_ GE365.out) | exact HB.out))) : w.heap.size ≤ gb364))
     have n9_ := am ((by rw [hg]; exact (Bb5 (by repeat (first | (with_reducible first | exact HB.out | apply Bb1 | apply Bb2 | apply Bb3 | refine Bb4 ?_ GE349.out | refine Bb4 ?_ GE350.out | refine Bb4 ?_ GE365.out) | exact HB.out))) : w.heap.size ≤ gb364))
     have n10_ := am ((by rw [hg]; exact nl (Bk5 (g := gb349) (o := .cells #[.int .i64 ((rd_T42 l0 0).f0), .int .i64 ((rd_T42 l0 0).f1)] 42 (0, 0)) (zK BK349)) : gb349 ≠ gb364))
     have n11_ := am ((by rw [hg]; exact ng (Bk5 (g := gb349) (o := .cells #[.int .i64 ((rd_T42 l0 0).f0), .int .i64 ((rd_T42 l0 0).f1)] 42 (0, 0)) (zK BK349)) : gb364 ≠ gb349))
     have n12_ := am ((by rw [hg]; exact nl (Bk5 (g := gb350) (o := .cells #[.int .i64 (wrap64 (x351000_1 + ((rd_T42 y354 x6_1).f0))), .int .i64 (wrap64 (x351001_1 + ((rd_T42 y354 x6_1).f1)))] 42 (0, 0)) (zK BK350)) : gb350 ≠ gb364))
     have n13_ := am ((by rw [hg]; exact ng (Bk5 (g := gb350) (o := .cells #[.int .i64 (wrap64 (x351000_1 + ((rd_T42 y354 x6_1).f0))), .int .i64 (wrap64 (x351001_1 + ((rd_T42 y354 x6_1).f1)))] 42 (0, 0)) (zK BK350)) : gb364 ≠ gb350))
     have n14_ := am ((by rw [hg]; exact nl (Bk5 (g := gb365) (o := .cells #[.int .i64 0, .int .i64 0] 42 (0, 0)) (zK BK365)) : gb365 ≠ gb364))
     have n15_ := am ((by rw [hg]; exact ng (Bk5 (g := gb365) (o := .cells #[.int .i64 0, .int .i64 0] 42 (0, 0)) (zK BK365)) : gb364 ≠ gb365))
     clear HO353
     clear HO356
     clear HO361
     clear BK349
     clear BK350
     clear BK365
     clear HB
     have HO353 := n0_
     have HO356 := n1_
     have HO361 := n2_
     have BK349 := n3_
     have BK350 := n4_
     have BK365 := n5_
     have HB := n6_
     have BK364 := n7_
     have GW364 := n8_
     have GE364 := n9_
     have NB349_364 := n10_
     have NB364_349 := n11_
     have NB350_364 := n12_
     have NB364_350 := n13_
     have NB365_364 := n14_
     have NB364_365 := n15_
     clear n0_ n1_ n2_ n3_ n4_ n5_ n6_ n7_ n8_ n9_ n10_ n11_ n12_ n13_ n14_ n15_
     clear hb hbox hg
     refine hK.out _ _ ⟨HS0_, HS1_, HS2_, HS3_⟩ (fun hHeld => ?_)
     clear hK K
     refine norm_ (a' := ?_) ?_ ?_
     rotate_left
     ·show Act.put _ (some 9) _ = _
      simp only [Act.put, sa, i64_w, i32_w]
      rfl
     exact norm_ (by simp only [putAll, Act.put, sa]) (hCont (gb364, gb365) _ ⟨hHeld, (zR HO353), (by (with_reducible repeat (first | apply Kd.R_alloc | apply Kd.R_drewN | apply Kd.R_drew)); exact Kd.R_mono HO356.out (fun _ hk => ⟨hk.1.1.2, ⟨hk.1.1.1.1.2, ⟨hk.1.1.1.2, ⟨hk.2, hk.1.2⟩⟩⟩⟩)), (by (with_reducible repeat (first | apply Kd.R_alloc | apply Kd.R_drewN | apply Kd.R_drew)); exact Kd.R_mono HO361.out (fun _ hk => ⟨hk.1.1.1.1.2, ⟨hk.1.1.1.2, ⟨hk.1.1.2, ⟨hk.2, hk.1.2⟩⟩⟩⟩)), (zK BK349), (zK BK350), (zK BK364), (zK BK365), GW364.out, GE364.out, NB349_364.out, NB364_349.out, NB350_364.out, NB364_350.out, NB365_364.out, NB364_365.out, GW365.out, GE365.out, NB349_365.out, NB365_349.out, NB350_365.out, NB365_350.out, (by repeat (first | (with_reducible first | exact HB.out | apply Bb1 | apply Bb2 | apply Bb3 | refine Bb4 ?_ GE349.out | refine Bb4 ?_ GE350.out | refine Bb4 ?_ GE365.out | refine Bb4 ?_ GE364.out) | exact HB.out))⟩)
    rintro ⟨gb364, gb365⟩ w77 ⟨hS_, h0_, h1_, h2_, h3_, h4_, h5_, h6_, h7_, h8_, h9_, h10_, h11_, h12_, h13_, h14_, h15_, h16_, h17_, h18_, h19_, h20_, h21_⟩
    have n0_ : Aside0 (Kd.R (Kd.int .u8) 5 w77 w.heap.size (fun _ => True) v352 y351) := ⟨h0_⟩
    have n1_ : Aside0 (Kd.R k42 42 w77 w.heap.size (fun k_ => some k_ ≠ (.slice (some ad362) y359.length co74 : Value).ownBlock ∧ k_ ≠ gb349 ∧ k_ ≠ gb350 ∧ k_ ≠ gb364 ∧ k_ ≠ gb365) (.slice (some ad357) y354.length co65) y354) := ⟨h1_⟩
    have n2_ : Aside0 (Kd.R k42 42 w77 w.heap.size (fun k_ => some k_ ≠ (.slice (some ad357) y354.length co65 : Value).ownBlock ∧ k_ ≠ gb349 ∧ k_ ≠ gb350 ∧ k_ ≠ gb364 ∧ k_ ≠ gb365) (.slice (some ad362) y359.length co74) y359) := ⟨h2_⟩
    have n3_ : Aside0 (w77.heap[gb349]? = some (.cells #[.int .i64 ((rd_T42 l0 0).f0), .int .i64 ((rd_T42 l0 0).f1)] 42 (0, 0))) := ⟨h3_⟩
    have n4_ : Aside0 (w77.heap[gb350]? = some (.cells #[.int .i64 (wrap64 (x351000_1 + ((rd_T42 y354 x6_1).f0))), .int .i64 (wrap64 (x351001_1 + ((rd_T42 y354 x6_1).f1)))] 42 (0, 0))) := ⟨h4_⟩
    have n5_ : Aside0 (w77.heap[gb364]? = some (.cells #[.int .i64 0, .int .i64 0] 42 (0, 0))) := ⟨h5_⟩
    have n6_ : Aside0 (w77.heap[gb365]? = some (.cells #[.int .i64 0, .int .i64 0] 42 (0, 0))) := ⟨h6_⟩
    have n7_ : Aside0 (w.heap.size ≤ gb364) := ⟨h7_⟩
    have n8_ : Aside0 (w.heap.size ≤ gb364) := ⟨h8_⟩
    have n9_ : Aside0 (gb349 ≠ gb364) := ⟨h9_⟩
    have n10_ : Aside0 (gb364 ≠ gb349) := ⟨h10_⟩
    have n11_ : Aside0 (gb350 ≠ gb364) := ⟨h11_⟩
    have n12_ : Aside0 (gb364 ≠ gb350) := ⟨h12_⟩
    have n13_ : Aside0 (gb365 ≠ gb364) := ⟨h13_⟩
    have n14_ : Aside0 (gb364 ≠ gb365) := ⟨h14_⟩
    have n15_ : Aside0 (w.heap.size ≤ gb365) := ⟨h15_⟩
    have n16_ : Aside0 (w.heap.size ≤ gb365) := ⟨h16_⟩
    have n17_ : Aside0 (gb349 ≠ gb365) := ⟨h17_⟩
    have n18_ : Aside0 (gb365 ≠ gb349) := ⟨h18_⟩
    have n19_ : Aside0 (gb350 ≠ gb365) := ⟨h19_⟩
    have n20_ : Aside0 (gb365 ≠ gb350) := ⟨h20_⟩
    have n21_ : Aside0 (Below w.heap.size w w77) := ⟨h21_⟩
    clear HO353
    clear HO356
    clear HO361
    clear BK349
    clear BK350
    clear HB
    clear h0_ h1_ h2_ h3_ h4_ h5_ h6_ h7_ h8_ h9_ h10_ h11_ h12_ h13_ h14_ h15_ h16_ h17_ h18_ h19_ h20_ h21_
    have HO353 := n0_
    have HO356 := n1_
    have HO361 := n2_
    have BK349 := n3_
    have BK350 := n4_
    have BK364 := n5_
    have BK365 := n6_
    have GW364 := n7_
    have GE364 := n8_
    have NB349_364 := n9_
    have NB364_349 := n10_
    have NB350_364 := n11_
    have NB364_350 := n12_
    have NB365_364 := n13_
    have NB364_365 := n14_
    have GW365 := n15_
    have GE365 := n16_
    have NB349_365 := n17_
    have NB365_349 := n18_
    have NB350_365 := n19_
    have NB365_350 := n20_
    have HB := n21_
    clear n0_ n1_ n2_ n3_ n4_ n5_ n6_ n7_ n8_ n9_ n10_ n11_ n12_ n13_ n14_ n15_ n16_ n17_ n18_ n19_ n20_ n21_
    have hHeld : w77.cell? (ad362.add ((x6_1).toNat * 2)) = some (.int .i64 ((rd_T42 y359 x6_1).f0)) ∧ w77.cell? ⟨(ad362.add ((x6_1).toNat * 2)).block, (ad362.add ((x6_1).toNat * 2)).off + 1, none⟩ = some (.int .i64 ((rd_T42 y359 x6_1).f1)) ∧ w77.cell? (ad362.add (((ji28)).toNat * 2)) = some (.int .i64 ((rd_T42 y359 (ji28)).f0)) ∧ w77.cell? ⟨(ad362.add (((ji28)).toNat * 2)).block, (ad362.add (((ji28)).toNat * 2)).off + 1, none⟩ = some (.int .i64 ((rd_T42 y359 (ji28)).f1)) := hS_
    refine norm_ (a' := ?_) ?_ ?_
    rotate_left
    ·simp only [putAll, Act.put, sa]
     rfl
    refine one_ (i := 12) (N := none) spec_l23Word.m28 rfl rfl (one_of HT_.out (by kernel_rfl)) (by decide) (fun K hK => ?_)
    have hs78 : w77.cell? ⟨gb364, 0, none⟩ = some (.int .i64 0) := (kc BK364.out 0).trans rfl
    have hfs78 := kf BK364.out 0
    have hns78_0 := NB349_364.out
    have hns78_1 := NB350_364.out
    have hns78_3 := NB365_364.out
    have hms78_0 := NB364_349.out
    have hms78_1 := NB364_350.out
    have hms78_3 := NB364_365.out
    have hs79 : w77.cell? ⟨gb364, 1, none⟩ = some (.int .i64 0) := (kc BK364.out 1).trans rfl
    have hfs79 := kf BK364.out 1
    have hns79_0 := NB349_364.out
    have hns79_1 := NB350_364.out
    have hns79_3 := NB365_364.out
    have hms79_0 := NB364_349.out
    have hms79_1 := NB364_350.out
    have hms79_3 := NB364_365.out
    refine skip_ (w1 := ?_) (by rfl) rfl ?_ ?_
    rotate_left
    ·go_simp
     rfl
    refine hK.out _ _ ⟨((cell_far (p := ⟨gb364, _, none⟩) (by first | exact Kd.own_blk (Kd.R_away HO361.out (fun _ hk => hk.2.2.2.1)) | (rw [add_block]; exact Kd.own_blk (Kd.R_away HO361.out (fun _ hk => hk.2.2.2.1))) | (show (Addr.add _ _).block ≠ _; rw [add_block]; exact Kd.own_blk (Kd.R_away HO361.out (fun _ hk => hk.2.2.2.1))) | (dsimp only; exact Kd.own_blk (Kd.R_away HO361.out (fun _ hk => hk.2.2.2.1)))) _).trans (((cell_far (p := ⟨gb364, _, none⟩) (by first | exact Kd.own_blk (Kd.R_away HO361.out (fun _ hk => hk.2.2.2.1)) | (rw [add_block]; exact Kd.own_blk (Kd.R_away HO361.out (fun _ hk => hk.2.2.2.1))) | (show (Addr.add _ _).block ≠ _; rw [add_block]; exact Kd.own_blk (Kd.R_away HO361.out (fun _ hk => hk.2.2.2.1))) | (dsimp only; exact Kd.own_blk (Kd.R_away HO361.out (fun _ hk => hk.2.2.2.1)))) _).trans (hHeld.1)))), ((cell_far (p := ⟨gb364, _, none⟩) (by first | exact Kd.own_blk (Kd.R_away HO361.out (fun _ hk => hk.2.2.2.1)) | (rw [add_block]; exact Kd.own_blk (Kd.R_away HO361.out (fun _ hk => hk.2.2.2.1))) | (show (Addr.add _ _).block ≠ _; rw [add_block]; exact Kd.own_blk (Kd.R_away HO361.out (fun _ hk => hk.2.2.2.1))) | (dsimp only; exact Kd.own_blk (Kd.R_away HO361.out (fun _ hk => hk.2.2.2.1)))) _).trans (((cell_far (p := ⟨gb364, _, none⟩) (by first | exact Kd.own_blk (Kd.R_away HO361.out (fun _ hk => hk.2.2.2.1)) | (rw [add_block]; exact Kd.own_blk (Kd.R_away HO361.out (fun _ hk => hk.2.2.2.1))) | (show (Addr.add _ _).block ≠ _; rw [add_block]; exact Kd.own_blk (Kd.R_away HO361.out (fun _ hk => hk.2.2.2.1))) | (dsimp only; exact Kd.own_blk (Kd.R_away HO361.out (fun _ hk => hk.2.2.2.1)))) _).trans (hHeld.2.1)))), ((cell_far (p := ⟨gb364, _, none⟩) (by first | exact Kd.own_blk (Kd.R_away HO361.out (fun _ hk => hk.2.2.2.1)) | (rw [add_block]; exact Kd.own_blk (Kd.R_away HO361.out (fun _ hk => hk.2.2.2.1))) | (show (Addr.add _ _).block ≠ _; rw [add_block]; exact Kd.own_blk (Kd.R_away HO361.out (fun _ hk => hk.2.2.2.1))) | (dsimp only; exact Kd.own_blk (Kd.R_away HO361.out (fun _ hk => hk.2.2.2.1)))) _).trans (((cell_far (p := ⟨gb364, _, none⟩) (by first | exact Kd.own_blk (Kd.R_away HO361.out (fun _ hk => hk.2.2.2.1)) | (rw [add_block]; exact Kd.own_blk (Kd.R_away HO361.out (fun _ hk => hk.2.2.2.1))) | (show (Addr.add _ _).block ≠ _; rw [add_block]; exact Kd.own_blk (Kd.R_away HO361.out (fun _ hk => hk.2.2.2.1))) | (dsimp only; exact Kd.own_blk (Kd.R_away HO361.out (fun _ hk => hk.2.2.2.1)))) _).trans (hHeld.2.2.1)))), ((cell_far (p := ⟨gb364, _, none⟩) (by first | exact Kd.own_blk (Kd.R_away HO361.out (fun _ hk => hk.2.2.2.1)) | (rw [add_block]; exact Kd.own_blk (Kd.R_away HO361.out (fun _ hk => hk.2.2.2.1))) | (show (Addr.add _ _).block ≠ _; rw [add_block]; exact Kd.own_blk (Kd.R_away HO361.out (fun _ hk => hk.2.2.2.1))) | (dsimp only; exact Kd.own_blk (Kd.R_away HO361.out (fun _ hk => hk.2.2.2.1)))) _).trans (((cell_far (p := ⟨gb364, _, none⟩) (by first | exact Kd.own_blk (Kd.R_away HO361.out (fun _ hk => hk.2.2.2.1)) | (rw [add_block]; exact Kd.own_blk (Kd.R_away HO361.out (fun _ hk => hk.2.2.2.1))) | (show (Addr.add _ _).block ≠ _; rw [add_block]; exact Kd.own_blk (Kd.R_away HO361.out (fun _ hk => hk.2.2.2.1))) | (dsimp only; exact Kd.own_blk (Kd.R_away HO361.out (fun _ hk => hk.2.2.2.1)))) _).trans (hHeld.2.2.2))))⟩ (fun hHeld => ?_)
    clear hK K
    refine one_ (i := 13) (N := none) spec_l23Word.m34 rfl rfl (one_of HT_.out (by kernel_rfl)) (by decide) (fun K hK => ?_)
    have hs80 : w77.cell? ⟨gb365, 0, none⟩ = some (.int .i64 0) := (kc BK365.out 0).trans rfl
    have hfs80 := kf BK365.out 0
    have hns80_0 := NB349_365.out
    have hns80_1 := NB350_365.out
    have hns80_2 := NB364_365.out
    have hms80_0 := NB365_349.out
    have hms80_1 := NB365_350.out
    have hms80_2 := NB365_364.out
    have hs81 : w77.cell? ⟨gb365, 1, none⟩ = some (.int .i64 0) := (kc BK365.out 1).trans rfl
    have hfs81 := kf BK365.out 1
    have hns81_0 := NB349_365.out
    have hns81_1 := NB350_365.out
    have hns81_2 := NB364_365.out
    have hms81_0 := NB365_349.out
    have hms81_1 := NB365_350.out
    have hms81_2 := NB365_364.out
    refine skip_ (w1 := ?_) (by rfl) rfl ?_ ?_
    rotate_left
    ·go_simp
     rfl
    refine hK.out _ _ ⟨((cell_far (p := ⟨gb365, _, none⟩) (by first | exact Kd.own_blk (Kd.R_away HO361.out (fun _ hk => hk.2.2.2.2)) | (rw [add_block]; exact Kd.own_blk (Kd.R_away HO361.out (fun _ hk => hk.2.2.2.2))) | (show (Addr.add _ _).block ≠ _; rw [add_block]; exact Kd.own_blk (Kd.R_away HO361.out (fun _ hk => hk.2.2.2.2))) | (dsimp only; exact Kd.own_blk (Kd.R_away HO361.out (fun _ hk => hk.2.2.2.2)))) _).trans (((cell_far (p := ⟨gb365, _, none⟩) (by first | exact Kd.own_blk (Kd.R_away HO361.out (fun _ hk => hk.2.2.2.2)) | (rw [add_block]; exact Kd.own_blk (Kd.R_away HO361.out (fun _ hk => hk.2.2.2.2))) | (show (Addr.add _ _).block ≠ _; rw [add_block]; exact Kd.own_blk (Kd.R_away HO361.out (fun _ hk => hk.2.2.2.2))) | (dsimp only; exact Kd.own_blk (Kd.R_away HO361.out (fun _ hk => hk.2.2.2.2)))) _).trans (hHeld.1)))), ((cell_far (p := ⟨gb365, _, none⟩) (by first | exact Kd.own_blk (Kd.R_away HO361.out (fun _ hk => hk.2.2.2.2)) | (rw [add_block]; exact Kd.own_blk (Kd.R_away HO361.out (fun _ hk => hk.2.2.2.2))) | (show (Addr.add _ _).block ≠ _; rw [add_block]; exact Kd.own_blk (Kd.R_away HO361.out (fun _ hk => hk.2.2.2.2))) | (dsimp only; exact Kd.own_blk (Kd.R_away HO361.out (fun _ hk => hk.2.2.2.2)))) _).trans (((cell_far (p := ⟨gb365, _, none⟩) (by first | exact Kd.own_blk (Kd.R_away HO361.out (fun _ hk => hk.2.2.2.2)) | (rw [add_block]; exact Kd.own_blk (Kd.R_away HO361.out (fun _ hk => hk.2.2.2.2))) | (show (Addr.add _ _).block ≠ _; rw [add_block]; exact Kd.own_blk (Kd.R_away HO361.out (fun _ hk => hk.2.2.2.2))) | (dsimp only; exact Kd.own_blk (Kd.R_away HO361.out (fun _ hk => hk.2.2.2.2)))) _).trans (hHeld.2.1)))), ((cell_far (p := ⟨gb365, _, none⟩) (by first | exact Kd.own_blk (Kd.R_away HO361.out (fun _ hk => hk.2.2.2.2)) | (rw [add_block]; exact Kd.own_blk (Kd.R_away HO361.out (fun _ hk => hk.2.2.2.2))) | (show (Addr.add _ _).block ≠ _; rw [add_block]; exact Kd.own_blk (Kd.R_away HO361.out (fun _ hk => hk.2.2.2.2))) | (dsimp only; exact Kd.own_blk (Kd.R_away HO361.out (fun _ hk => hk.2.2.2.2)))) _).trans (((cell_far (p := ⟨gb365, _, none⟩) (by first | exact Kd.own_blk (Kd.R_away HO361.out (fun _ hk => hk.2.2.2.2)) | (rw [add_block]; exact Kd.own_blk (Kd.R_away HO361.out (fun _ hk => hk.2.2.2.2))) | (show (Addr.add _ _).block ≠ _; rw [add_block]; exact Kd.own_blk (Kd.R_away HO361.out (fun _ hk => hk.2.2.2.2))) | (dsimp only; exact Kd.own_blk (Kd.R_away HO361.out (fun _ hk => hk.2.2.2.2)))) _).trans (hHeld.2.2.1)))), ((cell_far (p := ⟨gb365, _, none⟩) (by first | exact Kd.own_blk (Kd.R_away HO361.out (fun _ hk => hk.2.2.2.2)) | (rw [add_block]; exact Kd.own_blk (Kd.R_away HO361.out (fun _ hk => hk.2.2.2.2))) | (show (Addr.add _ _).block ≠ _; rw [add_block]; exact Kd.own_blk (Kd.R_away HO361.out (fun _ hk => hk.2.2.2.2))) | (dsimp only; exact Kd.own_blk (Kd.R_away HO361.out (fun _ hk => hk.2.2.2.2)))) _).trans (((cell_far (p := ⟨gb365, _, none⟩) (by first | exact Kd.own_blk (Kd.R_away HO361.out (fun _ hk => hk.2.2.2.2)) | (rw [add_block]; exact Kd.own_blk (Kd.R_away HO361.out (fun _ hk => hk.2.2.2.2))) | (show (Addr.add _ _).block ≠ _; rw [add_block]; exact Kd.own_blk (Kd.R_away HO361.out (fun _ hk => hk.2.2.2.2))) | (dsimp only; exact Kd.own_blk (Kd.R_away HO361.out (fun _ hk => hk.2.2.2.2)))) _).trans (hHeld.2.2.2))))⟩ (fun hHeld => ?_)
    clear hK K
    refine done_ (done_of HT_.out (by kernel_rfl)) ?_
    have hnb82 := NB364_349.out
    have hnc82 := NB349_364.out
    have hnb83 := NB364_350.out
    have hnc83 := NB350_364.out
    have hnb84 := NB364_365.out
    have hnc84 := NB365_364.out
    have hcz85_0 : w77.cell? ⟨gb364, 0, none⟩ = some (.int .i64 0) := (kc BK364.out 0).trans rfl
    have hcz85_1 : w77.cell? ⟨gb364, 1, none⟩ = some (.int .i64 0) := (kc BK364.out 1).trans rfl
    have hfz85_0 := kf BK364.out 0
    have hfz85_1 := kf BK364.out 1
    try go_wp2_with (first | ((with_reducible refine gate_callee (f := 70) rfl ?_); refine goesL_ (some 82) rfl rfl Tryd.func70 (by kernel_rfl) rfl #[.slice (some ad348) l0.length c0, .agg #[.int .i64 ((rd_T42 y359 x6_1).f0), .int .i64 ((rd_T42 y359 x6_1).f1)]] rfl zL ?_; (with_reducible refine (spec_l02Index.calls k1 _ _ l0 ((rd_T42 y359 x6_1).f0) ((rd_T42 y359 x6_1).f1) t366 _ ?side1 ?side2 A31.out).mono ?_); (case side1 => exact Kd.C_below HR0.out (by repeat (first | (with_reducible first | exact HB.out | apply Bb1 | apply Bb2 | apply Bb3 | refine Bb4 ?_ GE349.out | refine Bb4 ?_ GE350.out | refine Bb4 ?_ GE364.out | refine Bb4 ?_ GE365.out) | exact HB.out))); (case side2 => exact HC0.out); rintro e w86 ⟨rfl, hb⟩; refine ⟨_, rfl, ?_⟩; have n0_ := am (Kd.R_below (by (with_reducible repeat (first | apply Kd.R_alloc | apply Kd.R_drewN | apply Kd.R_drew)); exact (Kd.R_mono (Kd.R_mono (Kd.R_far (p := ⟨gb365, 1, none⟩) (Kd.R_far (p := ⟨gb365, 0, none⟩) (Kd.R_far (p := ⟨gb364, 1, none⟩) (Kd.R_far (p := ⟨gb364, 0, none⟩) (Kd.R_types (Kd.R_types HO353.out BK364.out (by decide)) BK365.out (by decide)) (fun _ hk => hk.1.2) (.int .i64 ((rd_T42 y359 x6_1).f0))) (fun _ hk => hk.1.2) (.int .i64 ((rd_T42 y359 x6_1).f1))) (fun _ hk => hk.2) (.int .i64 ((rd_T42 y359 (ji28)).f0))) (fun _ hk => hk.2) (.int .i64 ((rd_T42 y359 (ji28)).f1))) (fun _ h_ => h_.1)) (fun _ h_ => h_.1))) hb); have n1_ := am (Kd.R_below (by (with_reducible repeat (first | apply Kd.R_alloc | apply Kd.R_drewN | apply Kd.R_drew)); exact (Kd.R_mono (Kd.R_mono (Kd.R_far (p := ⟨gb365, 1, none⟩) (Kd.R_far (p := ⟨gb365, 0, none⟩) (Kd.R_far (p := ⟨gb364, 1, none⟩) (Kd.R_far (p := ⟨gb364, 0, none⟩) (Kd.R_mono (Kd.R_mono HO356.out (fun k_ hk => (⟨hk, hk.2.2.2.1⟩ : _ ∧ k_ ≠ gb364))) (fun k_ hk => (⟨hk, hk.1.2.2.2.2⟩ : _ ∧ k_ ≠ gb365))) (fun _ hk => hk.1.2) (.int .i64 ((rd_T42 y359 x6_1).f0))) (fun _ hk => hk.1.2) (.int .i64 ((rd_T42 y359 x6_1).f1))) (fun _ hk => hk.2) (.int .i64 ((rd_T42 y359 (ji28)).f0))) (fun _ hk => hk.2) (.int .i64 ((rd_T42 y359 (ji28)).f1))) (fun _ h_ => h_.1)) (fun _ h_ => h_.1))) hb); have n2_ := am (Kd.R_below (by (with_reducible repeat (first | apply Kd.R_alloc | apply Kd.R_drewN | apply Kd.R_drew)); exact (Kd.R_mono (Kd.R_mono (Kd.R_far (p := ⟨gb365, 1, none⟩) (Kd.R_far (p := ⟨gb365, 0, none⟩) (Kd.R_far (p := ⟨gb364, 1, none⟩) (Kd.R_far (p := ⟨gb364, 0, none⟩) (Kd.R_mono (Kd.R_mono HO361.out (fun k_ hk => (⟨hk, hk.2.2.2.1⟩ : _ ∧ k_ ≠ gb364))) (fun k_ hk => (⟨hk, hk.1.2.2.2.2⟩ : _ ∧ k_ ≠ gb365))) (fun _ hk => hk.1.2) (.int .i64 ((rd_T42 y359 x6_1).f0))) (fun _ hk => hk.1.2) (.int .i64 ((rd_T42 y359 x6_1).f1))) (fun _ hk => hk.2) (.int .i64 ((rd_T42 y359 (ji28)).f0))) (fun _ hk => hk.2) (.int .i64 ((rd_T42 y359 (ji28)).f1))) (fun _ h_ => h_.1)) (fun _ h_ => h_.1))) hb); have n3_ := am (Bk4 (g := gb349) (o := .cells #[.int .i64 ((rd_T42 l0 0).f0), .int .i64 ((rd_T42 l0 0).f1)] 42 (0, 0)) (by (with_reducible repeat (first | refine Bk2 ?_ _ | refine Bk3 ?_ | refine Bk1 ?_ _)); refine blk_far ?_ NB349_365.out _; (with_reducible repeat (first | refine Bk2 ?_ _ | refine Bk3 ?_ | refine Bk1 ?_ _)); refine blk_far ?_ NB349_365.out _; (with_reducible repeat (first | refine Bk2 ?_ _ | refine Bk3 ?_ | refine Bk1 ?_ _)); refine blk_far ?_ NB349_364.out _; (with_reducible repeat (first | refine Bk2 ?_ _ | refine Bk3 ?_ | refine Bk1 ?_ _)); refine blk_far ?_ NB349_364.out _; (with_reducible repeat (first | refine Bk2 ?_ _ | refine Bk3 ?_ | refine Bk1 ?_ _)); exact BK349.out) hb); have n4_ := am (Bk4 (g := gb350) (o := .cells #[.int .i64 (wrap64 (x351000_1 + ((rd_T42 y354 x6_1).f0))), .int .i64 (wrap64 (x351001_1 + ((rd_T42 y354 x6_1).f1)))] 42 (0, 0)) (by (with_reducible repeat (first | refine Bk2 ?_ _ | refine Bk3 ?_ | refine Bk1 ?_ _)); refine blk_far ?_ NB350_365.out _; (with_reducible repeat (first | refine Bk2 ?_ _ | refine Bk3 ?_ | refine Bk1 ?_ _)); refine blk_far ?_ NB350_365.out _; (with_reducible repeat (first | refine Bk2 ?_ _ | refine Bk3 ?_ | refine Bk1 ?_ _)); refine blk_far ?_ NB350_364.out _; (with_reducible repeat (first | refine Bk2 ?_ _ | refine Bk3 ?_ | refine Bk1 ?_ _)); refine blk_far ?_ NB350_364.out _; (with_reducible repeat (first | refine Bk2 ?_ _ | refine Bk3 ?_ | refine Bk1 ?_ _)); exact BK350.out) hb); have n5_ := am (Bk4 (g := gb364) (o := .cells #[.int .i64 ((rd_T42 y359 x6_1).f0), .int .i64 ((rd_T42 y359 x6_1).f1)] 42 (0, 0)) (by (with_reducible repeat (first | refine Bk2 ?_ _ | refine Bk3 ?_ | refine Bk1 ?_ _)); refine blk_far ?_ NB364_365.out _; (with_reducible repeat (first | refine Bk2 ?_ _ | refine Bk3 ?_ | refine Bk1 ?_ _)); refine blk_far ?_ NB364_365.out _; (with_reducible repeat (first | refine Bk2 ?_ _ | refine Bk3 ?_ | refine Bk1 ?_ _)); refine blk_put (cs := #[.int .i64 ((rd_T42 y359 x6_1).f0), .int .i64 0]) ?_ 1 _ rfl; (with_reducible repeat (first | refine Bk2 ?_ _ | refine Bk3 ?_ | refine Bk1 ?_ _)); refine blk_put (cs := #[.int .i64 0, .int .i64 0]) ?_ 0 _ rfl; (with_reducible repeat (first | refine Bk2 ?_ _ | refine Bk3 ?_ | refine Bk1 ?_ _)); exact BK364.out) hb); have n6_ := am (Bk4 (g := gb365) (o := .cells #[.int .i64 ((rd_T42 y359 (ji28)).f0), .int .i64 ((rd_T42 y359 (ji28)).f1)] 42 (0, 0)) (by (with_reducible repeat (first | refine Bk2 ?_ _ | refine Bk3 ?_ | refine Bk1 ?_ _)); refine blk_put (cs := #[.int .i64 ((rd_T42 y359 (ji28)).f0), .int .i64 0]) ?_ 1 _ rfl; (with_reducible repeat (first | refine Bk2 ?_ _ | refine Bk3 ?_ | refine Bk1 ?_ _)); refine blk_put (cs := #[.int .i64 0, .int .i64 0]) ?_ 0 _ rfl; (with_reducible repeat (first | refine Bk2 ?_ _ | refine Bk3 ?_ | refine Bk1 ?_ _)); refine blk_far ?_ NB365_364.out _; (with_reducible repeat (first | refine Bk2 ?_ _ | refine Bk3 ?_ | refine Bk1 ?_ _)); refine blk_far ?_ NB365_364.out _; (with_reducible repeat (first | refine Bk2 ?_ _ | refine Bk3 ?_ | refine Bk1 ?_ _)); exact BK365.out) hb); have n7_ := am (Bb6 (by repeat (first | (with_reducible first | exact HB.out | apply Bb1 | apply Bb2 | apply Bb3 | refine Bb4 ?_ GE349.out | refine Bb4 ?_ GE350.out | refine Bb4 ?_ GE364.out | refine Bb4 ?_ GE365.out) | exact HB.out)) hb); clear HO353; clear HO356; clear HO361; clear BK349; clear BK350; clear BK364; clear BK365; clear HB; have HO353 := n0_; have HO356 := n1_; have HO361 := n2_; have BK349 := n3_; have BK350 := n4_; have BK364 := n5_; have BK365 := n6_; have HB := n7_; clear n0_ n1_ n2_ n3_ n4_ n5_ n6_ n7_; (try clear hb); (try clear hb2); (try clear hk); (try clear hi); have hnb87 := NB365_349.out; have hnc87 := NB349_365.out; have hnb88 := NB365_350.out; have hnc88 := NB350_365.out; have hcz89_0 : w86.cell? ⟨gb365, 0, none⟩ = some (.int .i64 ((rd_T42 y359 (ji28)).f0)) := (kc BK365.out 0).trans rfl; have hcz89_1 : w86.cell? ⟨gb365, 1, none⟩ = some (.int .i64 ((rd_T42 y359 (ji28)).f1)) := (kc BK365.out 1).trans rfl; have hfz89_0 := kf BK365.out 0; have hfz89_1 := kf BK365.out 1) | ((with_reducible refine gate_callee (f := 70) rfl ?_); refine goesL_ (some 90) rfl rfl Tryd.func70 (by kernel_rfl) rfl #[.slice (some ad348) l0.length c0, .agg #[.int .i64 ((rd_T42 y359 (ji28)).f0), .int .i64 ((rd_T42 y359 (ji28)).f1)]] rfl (by (try simp only [List.map_toArray, List.map_cons, List.map_nil]); first | done | (simp only [hji28]; rfl) | rfl | (simp only [List.length_drop, List.length_take]; rfl)) ?_; (with_reducible refine (spec_l02Index.calls k1 _ _ l0 ((rd_T42 y359 (ji28)).f0) ((rd_T42 y359 (ji28)).f1) t367 _ ?side1 ?side2 A59.out).mono ?_); (case side1 => repeat (first | exact (Kd.C_below HR0.out HB.out) | (with_reducible refine Kd.C_alloc ?_ _) | (with_reducible refine Kd.C_drewN ?_ _) | (with_reducible refine Kd.C_drew ?_))); (case side2 => exact HC0.out); rintro e w90 ⟨rfl, hb⟩; refine ⟨_, rfl, ?_⟩; have n0_ := am (Kd.R_below (zR HO353) hb); have n1_ := am (Kd.R_below (zR HO356) hb); have n2_ := am (Kd.R_below (zR HO361) hb); have n3_ := am (Bk4 (g := gb349) (o := .cells #[.int .i64 ((rd_T42 l0 0).f0), .int .i64 ((rd_T42 l0 0).f1)] 42 (0, 0)) (zK BK349) hb); have n4_ := am (Bk4 (g := gb350) (o := .cells #[.int .i64 (wrap64 (x351000_1 + ((rd_T42 y354 x6_1).f0))), .int .i64 (wrap64 (x351001_1 + ((rd_T42 y354 x6_1).f1)))] 42 (0, 0)) (zK BK350) hb); have n5_ := am (Bk4 (g := gb364) (o := .cells #[.int .i64 ((rd_T42 y359 x6_1).f0), .int .i64 ((rd_T42 y359 x6_1).f1)] 42 (0, 0)) (zK BK364) hb); have n6_ := am (Bk4 (g := gb365) (o := .cells #[.int .i64 ((rd_T42 y359 (ji28)).f0), .int .i64 ((rd_T42 y359 (ji28)).f1)] 42 (0, 0)) (zK BK365) hb); have n7_ := am (Bb6 (by repeat (first | (with_reducible first | exact HB.out | apply Bb1 | apply Bb2 | apply Bb3 | refine Bb4 ?_ GE349.out | refine Bb4 ?_ GE350.out | refine Bb4 ?_ GE364.out | refine Bb4 ?_ GE365.out) | exact HB.out)) hb); clear HO353; clear HO356; clear HO361; clear BK349; clear BK350; clear BK364; clear BK365; clear HB; have HO353 := n0_; have HO356 := n1_; have HO361 := n2_; have BK349 := n3_; have BK350 := n4_; have BK364 := n5_; have BK365 := n6_; have HB := n7_; clear n0_ n1_ n2_ n3_ n4_ n5_ n6_ n7_; (try clear hb); (try clear hb2); (try clear hk); (try clear hi)))
    go_roundg k1
    case measure => have := HK1.out; omega
    case rel => exact ⟨(y351), (ji28), (wrap64 (x351000_1 + ((rd_T42 y354 x6_1).f0))), (wrap64 (x351001_1 + ((rd_T42 y354 x6_1).f1))), (by first | rfl | (simp; done) | (simp only [← hji28] <;> (first | rfl | simp)) | (simp [*]; done)), H', ⟨by have := HK1.out; omega⟩, ⟨zR HO353⟩, ⟨zK BK349⟩, ⟨zK BK350⟩, ⟨by repeat (first | (with_reducible first | exact HB.out | apply Bb1 | apply Bb2 | apply Bb3 | refine Bb4 ?_ GE349.out | refine Bb4 ?_ GE350.out | refine Bb4 ?_ GE364.out | refine Bb4 ?_ GE365.out) | exact HB.out)⟩⟩
   rw [if_neg c60] at H
   have c60b0 : decide (t367 < 0) = false := decide_eq_false c60
   clear c60
   have H' := am H
   clear H
   have p12 : 0 ≤ (x6_1 : Int) := zD
   have q12 : x6_1 < (4 : Int) := zD
   have hx12 := bt_at (⟨#[114, 100, 108, 117]⟩ : ByteArray) x6_1
   replace p12 := eq_true p12
   replace q12 := eq_true q12
   try go_wp2_with (first | ((with_reducible refine gate_builtin (b := .append) (xs := #[.tmp 16, .tmp 19]) rfl ?_); at_builtin; refine Kd.R_append (Kd.int .u8) (w0 := w) w.heap.size rfl (.tmp 16) (.tmp 19) 32 5 (.int .u8 0) 1 rfl Tryd.underlying32 info5 rfl (by decide) (by omega) u3 x3_1 (bt (⟨#[114, 100, 108, 117]⟩ : ByteArray) x6_1) [.int .u8 (bt (⟨#[114, 100, 108, 117]⟩ : ByteArray) x6_1)] (fun _ => True) (fun _ => False) rfl rfl ?aP (fun _ hk => hk.elim) ?aF ?aO ?aB ?aS ?aL ?_; (case aP => exact rfl); (case aB => exact (by repeat (first | (with_reducible first | exact HB.out | apply Bb1 | apply Bb2 | apply Bb3 | refine Bb4 ?_ GE349.out | refine Bb4 ?_ GE350.out) | exact HB.out))); (case aF => exact (fun _ _ => trivial)); (case aO => exact (zR HO_3)); (case aS => exact (Bb5 (by repeat (first | (with_reducible first | exact HB.out | apply Bb1 | apply Bb2 | apply Bb3 | refine Bb4 ?_ GE349.out | refine Bb4 ?_ GE350.out) | exact HB.out)))); (case aL => have := LMc13.out; omega); intro v352 w91 ho hb hg hat; rw [← Ny351.out] at ho; have n0_ := am (blk_grown (g := gb349) (o := .cells #[.int .i64 ((rd_T42 l0 0).f0), .int .i64 ((rd_T42 l0 0).f1)] 42 (0, 0)) (zK BK349) hg (Kd.R_ne HO_3.out BK349.out (by decide))); have n1_ := am (blk_grown (g := gb350) (o := .cells #[.int .i64 x351000_1, .int .i64 x351001_1] 42 (0, 0)) (zK BK350) hg (Kd.R_ne HO_3.out BK350.out (by decide))); have n2_ := am (hb); have n3_ := am (ho); clear BK349; clear BK350; clear HB; clear HO_3; have BK349 := n0_; have BK350 := n1_; have HB := n2_; have HO353 := n3_; clear n0_ n1_ n2_ n3_; clear ho hb hg hat) | ((with_reducible refine gate_dst (N := 25) rfl ?_); refine Kd.R_lit k42 _ 42 ?hg (N := 25) ?hd (xs := ([(⟨1, 0⟩ : S42), (⟨0, 1⟩ : S42), (⟨(-1), 0⟩ : S42), (⟨0, (-1)⟩ : S42)] : List (S42))) (inner := [.int .i64 1, .int .i64 0, .int .i64 0, .int .i64 1, .int .i64 (-1), .int .i64 0, .int .i64 0, .int .i64 (-1)]) (ok := fun _ => True) (okp := fun _ => True) ?hr ?hp (fun _ hk => hk) trivial (Below.refl _ _) (Nat.le_refl _) (by simp) ?_; (case hd => rfl); (case hg => rfl); (case hr => first | (go_simp; done) | (go_simp; rfl)); (case hp => exact (Reps.c2 (show Kd.M k42 _ _ _ (⟨1, 0⟩ : S42) [.int .i64 1, .int .i64 0] from (k42_mkM _ _ _ (⟨1, 0⟩ : S42) )) (Reps.c2 (show Kd.M k42 _ _ _ (⟨0, 1⟩ : S42) [.int .i64 0, .int .i64 1] from (k42_mkM _ _ _ (⟨0, 1⟩ : S42) )) (Reps.c2 (show Kd.M k42 _ _ _ (⟨(-1), 0⟩ : S42) [.int .i64 (-1), .int .i64 0] from (k42_mkM _ _ _ (⟨(-1), 0⟩ : S42) )) (Reps.c2 (show Kd.M k42 _ _ _ (⟨0, (-1)⟩ : S42) [.int .i64 0, .int .i64 (-1)] from (k42_mkM _ _ _ (⟨0, (-1)⟩ : S42) )) (Reps.none _ _)))))); intro v355 w92 ho93 hb hg_ hnew_; clear hg_ hnew_; (first | rw [← Ny354.out] at ho93 | (simp only [Int.reduceToNat] at ho93; rw [← Ny354.out] at ho93)); have n0_ := am (Kd.R_below (zR HO353) hb); have n1_ := am (Kd.R_lower (Kd.R_newB (Kd.R_newB ho93 (g := gb349) (o := .cells #[.int .i64 ((rd_T42 l0 0).f0), .int .i64 ((rd_T42 l0 0).f1)] 42 (0, 0)) (zK BK349)) (g := gb350) (o := .cells #[.int .i64 x351000_1, .int .i64 x351001_1] 42 (0, 0)) (zK BK350)) (Bb5 (by repeat (first | (with_reducible first | exact HB.out | apply Bb1 | apply Bb2 | apply Bb3 | refine Bb4 ?_ GE349.out | refine Bb4 ?_ GE350.out) | exact HB.out)))); have n2_ := am (Bk4 (g := gb349) (o := .cells #[.int .i64 ((rd_T42 l0 0).f0), .int .i64 ((rd_T42 l0 0).f1)] 42 (0, 0)) (zK BK349) hb); have n3_ := am (Bk4 (g := gb350) (o := .cells #[.int .i64 x351000_1, .int .i64 x351001_1] 42 (0, 0)) (zK BK350) hb); have n4_ := am (Bb6 (by repeat (first | (with_reducible first | exact HB.out | apply Bb1 | apply Bb2 | apply Bb3 | refine Bb4 ?_ GE349.out | refine Bb4 ?_ GE350.out) | exact HB.out)) hb); clear HO353; clear BK349; clear BK350; clear HB; have HO353 := n0_; have HO356 := n1_; have BK349 := n2_; have BK350 := n3_; have HB := n4_; clear n0_ n1_ n2_ n3_ n4_; clear hb ho93))
   have n0_ := am (Kd.R_drew HO353.out)
   have n1_ := am (Kd.R_drew HO356.out)
   have n2_ := am (Bk3 BK349.out)
   have n3_ := am (Bk3 BK350.out)
   have n4_ := am (Bb3 HB.out)
   clear HO353
   clear HO356
   clear BK349
   clear BK350
   clear HB
   have HO353 := n0_
   have HO356 := n1_
   have BK349 := n2_
   have BK350 := n3_
   have HB := n4_
   clear n0_ n1_ n2_ n3_ n4_
   obtain ⟨Ao95, co95, eo95⟩ := Kd.R_slice HO356.out
   (first | subst eo95 | (injection eo95 with f1_ f2_ f3_; have f4_ := f1_.symm; have f5_ := f3_.symm; clear f1_ f2_ f3_; subst f4_; subst f5_))
   have p357 : 0 ≤ (x6_1 : Int) := zD
   have q357 : x6_1 < (y354.length : Int) := zD
   obtain ⟨ad357, e357, hx357_0, hx357_1⟩ := at_T42 (Kd.R_reads' HO356.out).2.2 x6_1 p357 q357
   cases e357
   replace p357 := eq_true p357
   replace q357 := eq_true q357
   have p358 : 0 ≤ (x6_1 : Int) := zD
   have q358 : x6_1 < (y354.length : Int) := zD
   obtain ⟨ad358, e358, hx358_0, hx358_1⟩ := at_T42 (Kd.R_reads' HO356.out).2.2 x6_1 p358 q358
   obtain rfl : ad357 = ad358 := (by injection e358)
   replace p358 := eq_true p358
   replace q358 := eq_true q358
   refine start_ (n := 18) (S := fun w' => w'.cell? ⟨gb350, 0, none⟩ = some (.int .i64 x351000_1) ∧ w'.cell? ⟨gb350, 1, none⟩ = some (.int .i64 x351001_1) ∧ w'.cell? (ad357.add ((x6_1).toNat * 2)) = some (.int .i64 ((rd_T42 y354 x6_1).f0)) ∧ w'.cell? ⟨(ad357.add ((x6_1).toNat * 2)).block, (ad357.add ((x6_1).toNat * 2)).off + 1, none⟩ = some (.int .i64 ((rd_T42 y354 x6_1).f1)) ∧ w'.cell? (ad357.add ((x6_1).toNat * 2)) = some (.int .i64 ((rd_T42 y354 x6_1).f0)) ∧ w'.cell? ⟨(ad357.add ((x6_1).toNat * 2)).block, (ad357.add ((x6_1).toNat * 2)).off + 1, none⟩ = some (.int .i64 ((rd_T42 y354 x6_1).f1))) (ds := [17]) spec_l23Word.m0 (by kernel_rfl) rfl rfl ⟨(kc BK350.out 0).trans rfl, (kc BK350.out 1).trans rfl, hx357_0, hx357_1, hx358_0, hx358_1⟩ (fun hHeld => ?_); refine with_tabW spec_l23Word.tab7 spec_l23Word.bits7 (fun HT_ HW_ => ?_)
   generalize w92.drew = w94 at HO353 HO356 BK349 BK350 HB hx357_0 hx357_1 hx358_0 hx358_1 hHeld ⊢
   refine pure_ (i := 0) (N := some 26) (v := ?_) (a' := ?_) spec_l23Word.m2 rfl rfl zA (fun _ _ _ h => h) (Or.inl ⟨by rfl, ?_⟩) ?_ ?_
   rotate_left
   ·intro w'
    go_simp
    with_reducible rfl
   rotate_left
   ·exact zP
   refine pure_ (i := 2) (N := some 28) (v := ?_) (a' := ?_) spec_l23Word.m4 rfl rfl zA (fun _ _ _ h => h) (Or.inl ⟨by rfl, ?_⟩) ?_ ?_
   rotate_left
   ·intro w'
    go_simp
    with_reducible rfl
   rotate_left
   ·exact zP
   refine pure_ (i := 3) (N := some 29) (v := ?_) (a' := ?_) spec_l23Word.m5 rfl rfl zA (fun _ _ _ h => h) (Or.inl ⟨by rfl, ?_⟩) ?_ ?_
   rotate_left
   ·intro w'
    go_simp
    with_reducible rfl
   rotate_left
   ·exact zP
   refine pure_ (i := 4) (N := some 30) (v := ?_) (a' := ?_) spec_l23Word.m6 rfl rfl zA (fun _ _ _ h => h) (Or.inl ⟨by rfl, ?_⟩) ?_ ?_
   rotate_left
   ·intro w'
    go_simp
    with_reducible rfl
   rotate_left
   ·exact zP
   refine pure_ (i := 5) (N := some 31) (v := ?_) (a' := ?_) spec_l23Word.m7 rfl rfl zA (fun _ _ _ h => h) (Or.inl ⟨by rfl, ?_⟩) ?_ ?_
   rotate_left
   ·intro w'
    go_simp
    with_reducible rfl
   rotate_left
   ·exact zP
   refine pure_ (i := 8) (N := some 34) (v := ?_) (a' := ?_) spec_l23Word.m8 rfl rfl zA (fun _ _ _ h => h) (Or.inl ⟨by rfl, ?_⟩) ?_ ?_
   rotate_left
   ·intro w'
    go_simp
    with_reducible rfl
   rotate_left
   ·exact zP
   refine pure_ (i := 10) (N := some 36) (v := ?_) (a' := ?_) spec_l23Word.m9 rfl rfl zA (fun _ _ _ h => h) (Or.inl ⟨by rfl, ?_⟩) ?_ ?_
   rotate_left
   ·intro w'
    go_simp
    with_reducible rfl
   rotate_left
   ·exact zP
   refine pure_ (i := 11) (N := some 37) (v := ?_) (a' := ?_) spec_l23Word.m10 rfl rfl zA (fun _ _ _ h => h) (Or.inl ⟨by rfl, ?_⟩) ?_ ?_
   rotate_left
   ·intro w'
    go_simp
    with_reducible rfl
   rotate_left
   ·exact zP
   refine pure_ (i := 12) (N := some 38) (v := ?_) (a' := ?_) spec_l23Word.m11 rfl rfl zA (fun _ _ _ h => h) (Or.inl ⟨by rfl, ?_⟩) ?_ ?_
   rotate_left
   ·intro w'
    go_simp
    with_reducible rfl
   rotate_left
   ·exact zP
   refine pure_ (i := 13) (N := some 39) (v := ?_) (a' := ?_) spec_l23Word.m12 rfl rfl zA (fun _ _ _ h => h) (Or.inl ⟨by rfl, ?_⟩) ?_ ?_
   rotate_left
   ·intro w'
    go_simp
    with_reducible rfl
   rotate_left
   ·exact zP
   refine take_ (i := 1) (N := some 27) (v := ?_) (a' := ?_) spec_l23Word.m20 rfl rfl (take_ofW HT_.out HW_.out (by kernel_rfl)) (fun _ _ _ h => h) (Or.inl ⟨by rfl, ?_⟩) hHeld ?_ ?_
   rotate_left
   ·rintro w' ⟨s0, s1, s2, s3, s4, s5⟩
    go_simp
    with_reducible rfl
   rotate_left
   ·exact zP
   refine take_ (i := 6) (N := some 32) (v := ?_) (a' := ?_) spec_l23Word.m21 rfl rfl (take_ofW HT_.out HW_.out (by kernel_rfl)) (fun _ _ _ h => h) (Or.inl ⟨by rfl, ?_⟩) hHeld ?_ ?_
   rotate_left
   ·rintro w' ⟨s0, s1, s2, s3, s4, s5⟩
    go_simp
    with_reducible rfl
   rotate_left
   ·exact zP
   refine pure_ (i := 7) (N := some 33) (v := ?_) (a' := ?_) spec_l23Word.m23 rfl rfl zA (fun _ _ _ h => h) (Or.inl ⟨by rfl, ?_⟩) ?_ ?_
   rotate_left
   ·intro w'
    go_simp
    with_reducible rfl
   rotate_left
   ·exact zP
   refine take_ (i := 9) (N := some 35) (v := ?_) (a' := ?_) spec_l23Word.m29 rfl rfl (take_ofW HT_.out HW_.out (by kernel_rfl)) (fun _ _ _ h => h) (Or.inl ⟨by rfl, ?_⟩) hHeld ?_ ?_
   rotate_left
   ·rintro w' ⟨s0, s1, s2, s3, s4, s5⟩
    go_simp
    with_reducible rfl
   rotate_left
   ·exact zP
   refine take_ (i := 14) (N := some 40) (v := ?_) (a' := ?_) spec_l23Word.m30 rfl rfl (take_ofW HT_.out HW_.out (by kernel_rfl)) (fun _ _ _ h => h) (Or.inl ⟨by rfl, ?_⟩) hHeld ?_ ?_
   rotate_left
   ·rintro w' ⟨s0, s1, s2, s3, s4, s5⟩
    go_simp
    with_reducible rfl
   rotate_left
   ·exact zP
   refine pure_ (i := 15) (N := some 41) (v := ?_) (a' := ?_) spec_l23Word.m31 rfl rfl zA (fun _ _ _ h => h) (Or.inl ⟨by rfl, ?_⟩) ?_ ?_
   rotate_left
   ·intro w'
    go_simp
    with_reducible rfl
   rotate_left
   ·exact zP
   refine pure_ (i := 16) (N := some 42) (v := ?_) (a' := ?_) spec_l23Word.m32 rfl rfl zA (fun _ _ _ h => h) (Or.inl ⟨by rfl, ?_⟩) ?_ ?_
   rotate_left
   ·intro w'
    go_simp
    with_reducible rfl
   rotate_left
   ·exact zP
   refine last_ (i := 17) (N := none) spec_l23Word.m33 rfl rfl (one_of HT_.out (by kernel_rfl)) (by decide) (fun K hK => ?_)
   have hs96 : w94.cell? ⟨gb350, 0, none⟩ = some (.int .i64 x351000_1) := (kc BK350.out 0).trans rfl
   have hfs96 := kf BK350.out 0
   have hns96_0 := NB349_350.out
   have hms96_0 := NB350_349.out
   have hs97 : w94.cell? ⟨gb350, 1, none⟩ = some (.int .i64 x351001_1) := (kc BK350.out 1).trans rfl
   have hfs97 := kf BK350.out 1
   have hns97_0 := NB349_350.out
   have hms97_0 := NB350_349.out
   refine skip_ (w1 := ?_) (by rfl) rfl ?_ ?_
   rotate_left
   ·go_simp
    rfl
   refine hK.out _ _ ?_
   clear hK K
   refine done_ (done_of HT_.out (by kernel_rfl)) ?_
   have hnb98 := NB350_349.out
   have hnc98 := NB349_350.out
   have hcz99_0 : w94.cell? ⟨gb350, 0, none⟩ = some (.int .i64 x351000_1) := (kc BK350.out 0).trans rfl
   have hcz99_1 : w94.cell? ⟨gb350, 1, none⟩ = some (.int .i64 x351001_1) := (kc BK350.out 1).trans rfl
   have hfz99_0 := kf BK350.out 0
   have hfz99_1 := kf BK350.out 1
   have hcz100_0 : w94.cell? ⟨gb349, 0, none⟩ = some (.int .i64 ((rd_T42 l0 0).f0)) := (kc BK349.out 0).trans rfl
   have hcz100_1 : w94.cell? ⟨gb349, 1, none⟩ = some (.int .i64 ((rd_T42 l0 0).f1)) := (kc BK349.out 1).trans rfl
   have hfz100_0 := kf BK349.out 0
   have hfz100_1 := kf BK349.out 1
   try go_wp2_with (first | ((with_reducible refine gate_dst (N := 68) rfl ?_); refine Kd.R_lit k42 _ 42 ?hg (N := 68) ?hd (xs := ([(⟨wrap64 (x351000_1 + ((rd_T42 y354 x6_1).f0)), wrap64 ((wrap64 (x351001_1 + ((rd_T42 y354 x6_1).f1))) - 1)⟩ : S42), (⟨wrap64 (x351000_1 + ((rd_T42 y354 x6_1).f0)), wrap64 (x351001_1 + ((rd_T42 y354 x6_1).f1))⟩ : S42), (⟨wrap64 ((wrap64 (x351000_1 + ((rd_T42 y354 x6_1).f0))) - 1), wrap64 (x351001_1 + ((rd_T42 y354 x6_1).f1))⟩ : S42), (⟨wrap64 ((wrap64 (x351000_1 + ((rd_T42 y354 x6_1).f0))) - 1), wrap64 ((wrap64 (x351001_1 + ((rd_T42 y354 x6_1).f1))) - 1)⟩ : S42)] : List (S42))) (inner := [.int .i64 (wrap64 (x351000_1 + ((rd_T42 y354 x6_1).f0))), .int .i64 (wrap64 ((wrap64 (x351001_1 + ((rd_T42 y354 x6_1).f1))) - 1)), .int .i64 (wrap64 (x351000_1 + ((rd_T42 y354 x6_1).f0))), .int .i64 (wrap64 (x351001_1 + ((rd_T42 y354 x6_1).f1))), .int .i64 (wrap64 ((wrap64 (x351000_1 + ((rd_T42 y354 x6_1).f0))) - 1)), .int .i64 (wrap64 (x351001_1 + ((rd_T42 y354 x6_1).f1))), .int .i64 (wrap64 ((wrap64 (x351000_1 + ((rd_T42 y354 x6_1).f0))) - 1)), .int .i64 (wrap64 ((wrap64 (x351001_1 + ((rd_T42 y354 x6_1).f1))) - 1))]) (ok := fun _ => True) (okp := fun _ => True) ?hr ?hp (fun _ hk => hk) trivial (Below.refl _ _) (Nat.le_refl _) (by simp) ?_; (case hd => rfl); (case hg => rfl); (case hr => first | (go_simp; done) | (go_simp; rfl)); (case hp => exact (Reps.c2 (show Kd.M k42 _ _ _ (⟨wrap64 (x351000_1 + ((rd_T42 y354 x6_1).f0)), wrap64 ((wrap64 (x351001_1 + ((rd_T42 y354 x6_1).f1))) - 1)⟩ : S42) [.int .i64 (wrap64 (x351000_1 + ((rd_T42 y354 x6_1).f0))), .int .i64 (wrap64 ((wrap64 (x351001_1 + ((rd_T42 y354 x6_1).f1))) - 1))] from (k42_mkM _ _ _ (⟨wrap64 (x351000_1 + ((rd_T42 y354 x6_1).f0)), wrap64 ((wrap64 (x351001_1 + ((rd_T42 y354 x6_1).f1))) - 1)⟩ : S42) )) (Reps.c2 (show Kd.M k42 _ _ _ (⟨wrap64 (x351000_1 + ((rd_T42 y354 x6_1).f0)), wrap64 (x351001_1 + ((rd_T42 y354 x6_1).f1))⟩ : S42) [.int .i64 (wrap64 (x351000_1 + ((rd_T42 y354 x6_1).f0))), .int .i64 (wrap64 (x351001_1 + ((rd_T42 y354 x6_1).f1)))] from (k42_mkM _ _ _ (⟨wrap64 (x351000_1 + ((rd_T42 y354 x6_1).f0)), wrap64 (x351001_1 + ((rd_T42 y354 x6_1).f1))⟩ : S42) )) (Reps.c2 (show Kd.M k42 _ _ _ (⟨wrap64 ((wrap64 (x351000_1 + ((rd_T42 y354 x6_1).f0))) - 1), wrap64 (x351001_1 + ((rd_T42 y354 x6_1).f1))⟩ : S42) [.int .i64 (wrap64 ((wrap64 (x351000_1 + ((rd_T42 y354 x6_1).f0))) - 1)), .int .i64 (wrap64 (x351001_1 + ((rd_T42 y354 x6_1).f1)))] from (k42_mkM _ _ _ (⟨wrap64 ((wrap64 (x351000_1 + ((rd_T42 y354 x6_1).f0))) - 1), wrap64 (x351001_1 + ((rd_T42 y354 x6_1).f1))⟩ : S42) )) (Reps.c2 (show Kd.M k42 _ _ _ (⟨wrap64 ((wrap64 (x351000_1 + ((rd_T42 y354 x6_1).f0))) - 1), wrap64 ((wrap64 (x351001_1 + ((rd_T42 y354 x6_1).f1))) - 1)⟩ : S42) [.int .i64 (wrap64 ((wrap64 (x351000_1 + ((rd_T42 y354 x6_1).f0))) - 1)), .int .i64 (wrap64 ((wrap64 (x351001_1 + ((rd_T42 y354 x6_1).f1))) - 1))] from (k42_mkM _ _ _ (⟨wrap64 ((wrap64 (x351000_1 + ((rd_T42 y354 x6_1).f0))) - 1), wrap64 ((wrap64 (x351001_1 + ((rd_T42 y354 x6_1).f1))) - 1)⟩ : S42) )) (Reps.none _ _)))))); intro v360 w101 ho102 hb hg_ hnew_; clear hg_ hnew_; (first | rw [← Ny359.out] at ho102 | (simp only [Int.reduceToNat] at ho102; rw [← Ny359.out] at ho102)); have n0_ := am (Kd.R_below (by (with_reducible repeat (first | apply Kd.R_alloc | apply Kd.R_drewN | apply Kd.R_drew)); exact (Kd.R_mono (Kd.R_far (p := ⟨gb350, 1, none⟩) (Kd.R_far (p := ⟨gb350, 0, none⟩) (Kd.R_types HO353.out BK350.out (by decide)) (fun _ hk => hk.2) (.int .i64 (wrap64 (x351000_1 + ((rd_T42 y354 x6_1).f0))))) (fun _ hk => hk.2) (.int .i64 (wrap64 (x351001_1 + ((rd_T42 y354 x6_1).f1))))) (fun _ h_ => h_.1))) hb); have n1_ := am (Kd.R_elder' (by (with_reducible repeat (first | apply Kd.R_alloc | apply Kd.R_drewN | apply Kd.R_drew)); exact (Kd.R_mono (Kd.R_far (p := ⟨gb350, 1, none⟩) (Kd.R_far (p := ⟨gb350, 0, none⟩) (Kd.R_mono HO356.out (fun k_ hk => (⟨hk, hk.2⟩ : _ ∧ k_ ≠ gb350))) (fun _ hk => hk.2) (.int .i64 (wrap64 (x351000_1 + ((rd_T42 y354 x6_1).f0))))) (fun _ hk => hk.2) (.int .i64 (wrap64 (x351001_1 + ((rd_T42 y354 x6_1).f1))))) (fun _ h_ => h_.1))) (Kd.R_base ho102) hb); have n2_ := am (Kd.R_lower (Kd.R_newB (Kd.R_newB (Kd.R_new' ho102 (Kd.R_lt (by (with_reducible repeat (first | apply Kd.R_alloc | apply Kd.R_drewN | apply Kd.R_drew)); exact (Kd.R_mono (Kd.R_far (p := ⟨gb350, 1, none⟩) (Kd.R_far (p := ⟨gb350, 0, none⟩) (Kd.R_mono HO356.out (fun k_ hk => (⟨hk, hk.2⟩ : _ ∧ k_ ≠ gb350))) (fun _ hk => hk.2) (.int .i64 (wrap64 (x351000_1 + ((rd_T42 y354 x6_1).f0))))) (fun _ hk => hk.2) (.int .i64 (wrap64 (x351001_1 + ((rd_T42 y354 x6_1).f1))))) (fun _ h_ => h_.1))))) (g := gb349) (o := .cells #[.int .i64 ((rd_T42 l0 0).f0), .int .i64 ((rd_T42 l0 0).f1)] 42 (0, 0)) (by (with_reducible repeat (first | refine Bk2 ?_ _ | refine Bk3 ?_ | refine Bk1 ?_ _)); refine blk_far ?_ NB349_350.out _; (with_reducible repeat (first | refine Bk2 ?_ _ | refine Bk3 ?_ | refine Bk1 ?_ _)); refine blk_far ?_ NB349_350.out _; (with_reducible repeat (first | refine Bk2 ?_ _ | refine Bk3 ?_ | refine Bk1 ?_ _)); exact BK349.out)) (g := gb350) (o := .cells #[.int .i64 (wrap64 (x351000_1 + ((rd_T42 y354 x6_1).f0))), .int .i64 (wrap64 (x351001_1 + ((rd_T42 y354 x6_1).f1)))] 42 (0, 0)) (by (with_reducible repeat (first | refine Bk2 ?_ _ | refine Bk3 ?_ | refine Bk1 ?_ _)); refine blk_put (cs := #[.int .i64 (wrap64 (x351000_1 + ((rd_T42 y354 x6_1).f0))), .int .i64 x351001_1]) ?_ 1 _ rfl; (with_reducible repeat (first | refine Bk2 ?_ _ | refine Bk3 ?_ | refine Bk1 ?_ _)); refine blk_put (cs := #[.int .i64 x351000_1, .int .i64 x351001_1]) ?_ 0 _ rfl; (with_reducible repeat (first | refine Bk2 ?_ _ | refine Bk3 ?_ | refine Bk1 ?_ _)); exact BK350.out)) (Bb5 (by repeat (first | (with_reducible first | exact HB.out | apply Bb1 | apply Bb2 | apply Bb3 | refine Bb4 ?_ GE349.out | refine Bb4 ?_ GE350.out) | exact HB.out)))); have n3_ := am (Bk4 (g := gb349) (o := .cells #[.int .i64 ((rd_T42 l0 0).f0), .int .i64 ((rd_T42 l0 0).f1)] 42 (0, 0)) (by (with_reducible repeat (first | refine Bk2 ?_ _ | refine Bk3 ?_ | refine Bk1 ?_ _)); refine blk_far ?_ NB349_350.out _; (with_reducible repeat (first | refine Bk2 ?_ _ | refine Bk3 ?_ | refine Bk1 ?_ _)); refine blk_far ?_ NB349_350.out _; (with_reducible repeat (first | refine Bk2 ?_ _ | refine Bk3 ?_ | refine Bk1 ?_ _)); exact BK349.out) hb); have n4_ := am (Bk4 (g := gb350) (o := .cells #[.int .i64 (wrap64 (x351000_1 + ((rd_T42 y354 x6_1).f0))), .int .i64 (wrap64 (x351001_1 + ((rd_T42 y354 x6_1).f1)))] 42 (0, 0)) (by (with_reducible repeat (first | refine Bk2 ?_ _ | refine Bk3 ?_ | refine Bk1 ?_ _)); refine blk_put (cs := #[.int .i64 (wrap64 (x351000_1 + ((rd_T42 y354 x6_1).f0))), .int .i64 x351001_1]) ?_ 1 _ rfl; (with_reducible repeat (first | refine Bk2 ?_ _ | refine Bk3 ?_ | refine Bk1 ?_ _)); refine blk_put (cs := #[.int .i64 x351000_1, .int .i64 x351001_1]) ?_ 0 _ rfl; (with_reducible repeat (first | refine Bk2 ?_ _ | refine Bk3 ?_ | refine Bk1 ?_ _)); exact BK350.out) hb); have n5_ := am (Bb6 (by repeat (first | (with_reducible first | exact HB.out | apply Bb1 | apply Bb2 | apply Bb3 | refine Bb4 ?_ GE349.out | refine Bb4 ?_ GE350.out) | exact HB.out)) hb); clear HO353; clear HO356; clear BK349; clear BK350; clear HB; have HO353 := n0_; have HO356 := n1_; have HO361 := n2_; have BK349 := n3_; have BK350 := n4_; have HB := n5_; clear n0_ n1_ n2_ n3_ n4_ n5_; clear hb ho102))
   have n0_ := am (Kd.R_drew HO353.out)
   have n1_ := am (Kd.R_drew HO356.out)
   have n2_ := am (Kd.R_drew HO361.out)
   have n3_ := am (Bk3 BK349.out)
   have n4_ := am (Bk3 BK350.out)
   have n5_ := am (Bb3 HB.out)
   clear HO353
   clear HO356
   clear HO361
   clear BK349
   clear BK350
   clear HB
   have HO353 := n0_
   have HO356 := n1_
   have HO361 := n2_
   have BK349 := n3_
   have BK350 := n4_
   have HB := n5_
   clear n0_ n1_ n2_ n3_ n4_ n5_
   obtain ⟨Ao104, co104, eo104⟩ := Kd.R_slice HO361.out
   (first | subst eo104 | (injection eo104 with f1_ f2_ f3_; have f4_ := f1_.symm; have f5_ := f3_.symm; clear f1_ f2_ f3_; subst f4_; subst f5_))
   have p362 : 0 ≤ (x6_1 : Int) := zD
   have q362 : x6_1 < (y359.length : Int) := zD
   obtain ⟨ad362, e362, hx362_0, hx362_1⟩ := at_T42 (Kd.R_reads' HO361.out).2.2 x6_1 p362 q362
   cases e362
   replace p362 := eq_true p362
   replace q362 := eq_true q362
   have p363 : 0 ≤ ((ji28) : Int) := zD
   have q363 : (ji28) < (y359.length : Int) := zD
   obtain ⟨ad363, e363, hx363_0, hx363_1⟩ := at_T42 (Kd.R_reads' HO361.out).2.2 (ji28) p363 q363
   obtain rfl : ad362 = ad363 := (by injection e363)
   replace p363 := eq_true p363
   replace q363 := eq_true q363
   refine start_ (n := 14) (S := fun w' => w'.cell? (ad362.add ((x6_1).toNat * 2)) = some (.int .i64 ((rd_T42 y359 x6_1).f0)) ∧ w'.cell? ⟨(ad362.add ((x6_1).toNat * 2)).block, (ad362.add ((x6_1).toNat * 2)).off + 1, none⟩ = some (.int .i64 ((rd_T42 y359 x6_1).f1)) ∧ w'.cell? (ad362.add (((ji28)).toNat * 2)) = some (.int .i64 ((rd_T42 y359 (ji28)).f0)) ∧ w'.cell? ⟨(ad362.add (((ji28)).toNat * 2)).block, (ad362.add (((ji28)).toNat * 2)).off + 1, none⟩ = some (.int .i64 ((rd_T42 y359 (ji28)).f1))) (ds := []) spec_l23Word.m1 (by kernel_rfl) rfl rfl ⟨hx362_0, hx362_1, hx363_0, hx363_1⟩ (fun hHeld => ?_); refine with_tabW spec_l23Word.tab11 spec_l23Word.bits11 (fun HT_ HW_ => ?_)
   generalize w101.drew = w103 at HO353 HO356 HO361 BK349 BK350 HB hx362_0 hx362_1 hx363_0 hx363_1 hHeld ⊢
   refine pure_ (i := 0) (N := some 69) (v := ?_) (a' := ?_) spec_l23Word.m3 rfl rfl zA (fun _ _ _ h => h) (Or.inl ⟨by rfl, ?_⟩) ?_ ?_
   rotate_left
   ·intro w'
    go_simp
    with_reducible rfl
   rotate_left
   ·exact zP
   refine pure_ (i := 1) (N := some 70) (v := ?_) (a' := ?_) spec_l23Word.m13 rfl rfl zA (fun _ _ _ h => h) (Or.inl ⟨by rfl, ?_⟩) ?_ ?_
   rotate_left
   ·intro w'
    go_simp
    with_reducible rfl
   rotate_left
   ·exact zP
   refine pure_ (i := 2) (N := some 71) (v := ?_) (a' := ?_) spec_l23Word.m14 rfl rfl zA (fun _ _ _ h => h) (Or.inl ⟨by rfl, ?_⟩) ?_ ?_
   rotate_left
   ·intro w'
    go_simp
    with_reducible rfl
   rotate_left
   ·exact zP
   refine pure_ (i := 4) (N := some 73) (v := ?_) (a' := ?_) spec_l23Word.m15 rfl rfl zA (fun _ _ _ h => h) (Or.inl ⟨by rfl, ?_⟩) ?_ ?_
   rotate_left
   ·intro w'
    go_simp
    with_reducible rfl
   rotate_left
   ·exact zP
   refine pure_ (i := 5) (N := some 74) (v := ?_) (a' := ?_) spec_l23Word.m16 rfl rfl zA (fun _ _ _ h => h) (Or.inl ⟨by rfl, ?_⟩) ?_ ?_
   rotate_left
   ·intro w'
    go_simp
    with_reducible rfl
   rotate_left
   ·exact zP
   refine pure_ (i := 6) (N := some 75) (v := ?_) (a' := ?_) spec_l23Word.m17 rfl rfl zA (fun _ _ _ h => h) (Or.inl ⟨by rfl, ?_⟩) ?_ ?_
   rotate_left
   ·intro w'
    go_simp
    with_reducible rfl
   rotate_left
   ·exact zP
   refine pure_ (i := 7) (N := some 76) (v := ?_) (a' := ?_) spec_l23Word.m18 rfl rfl zA (fun _ _ _ h => h) (Or.inl ⟨by rfl, ?_⟩) ?_ ?_
   rotate_left
   ·intro w'
    go_simp
    with_reducible rfl
   rotate_left
   ·exact zP
   refine pure_ (i := 8) (N := some 77) (v := ?_) (a' := ?_) spec_l23Word.m19 rfl rfl zA (fun _ _ _ h => h) (Or.inl ⟨by rfl, ?_⟩) ?_ ?_
   rotate_left
   ·intro w'
    go_simp
    with_reducible rfl
   rotate_left
   ·exact zP
   refine take_ (i := 3) (N := some 72) (v := ?_) (a' := ?_) spec_l23Word.m22 rfl rfl (take_ofW HT_.out HW_.out (by kernel_rfl)) (fun _ _ _ h => h) (Or.inl ⟨by rfl, ?_⟩) hHeld ?_ ?_
   rotate_left
   ·rintro w' ⟨s0, s1, s2, s3⟩
    go_simp
    with_reducible rfl
   rotate_left
   ·exact zP
   refine take_ (i := 9) (N := some 78) (v := ?_) (a' := ?_) spec_l23Word.m24 rfl rfl (take_ofW HT_.out HW_.out (by kernel_rfl)) (fun _ _ _ h => h) (Or.inl ⟨by rfl, ?_⟩) hHeld ?_ ?_
   rotate_left
   ·rintro w' ⟨s0, s1, s2, s3⟩
    go_simp
    with_reducible rfl
   rotate_left
   ·exact zP
   refine join_ (σ := Nat × Nat) 2 spec_l23Word.m27 (fun s_ => [(9, .pointer (some ⟨s_.1, 0, none⟩)), (10, .pointer (some ⟨s_.2, 0, none⟩))]) (fun s_ w' => (w'.cell? (ad362.add ((x6_1).toNat * 2)) = some (.int .i64 ((rd_T42 y359 x6_1).f0)) ∧ w'.cell? ⟨(ad362.add ((x6_1).toNat * 2)).block, (ad362.add ((x6_1).toNat * 2)).off + 1, none⟩ = some (.int .i64 ((rd_T42 y359 x6_1).f1)) ∧ w'.cell? (ad362.add (((ji28)).toNat * 2)) = some (.int .i64 ((rd_T42 y359 (ji28)).f0)) ∧ w'.cell? ⟨(ad362.add (((ji28)).toNat * 2)).block, (ad362.add (((ji28)).toNat * 2)).off + 1, none⟩ = some (.int .i64 ((rd_T42 y359 (ji28)).f1))) ∧ (Kd.R (Kd.int .u8) 5 w' w.heap.size (fun _ => True) v352 y351) ∧ (Kd.R k42 42 w' w.heap.size (fun k_ => some k_ ≠ (.slice (some ad362) y359.length co104 : Value).ownBlock ∧ k_ ≠ gb349 ∧ k_ ≠ gb350 ∧ k_ ≠ s_.1 ∧ k_ ≠ s_.2) (.slice (some ad357) y354.length co95) y354) ∧ (Kd.R k42 42 w' w.heap.size (fun k_ => some k_ ≠ (.slice (some ad357) y354.length co95 : Value).ownBlock ∧ k_ ≠ gb349 ∧ k_ ≠ gb350 ∧ k_ ≠ s_.1 ∧ k_ ≠ s_.2) (.slice (some ad362) y359.length co104) y359) ∧ (w'.heap[gb349]? = some (.cells #[.int .i64 ((rd_T42 l0 0).f0), .int .i64 ((rd_T42 l0 0).f1)] 42 (0, 0))) ∧ (w'.heap[gb350]? = some (.cells #[.int .i64 (wrap64 (x351000_1 + ((rd_T42 y354 x6_1).f0))), .int .i64 (wrap64 (x351001_1 + ((rd_T42 y354 x6_1).f1)))] 42 (0, 0))) ∧ (w'.heap[s_.1]? = some (.cells #[.int .i64 0, .int .i64 0] 42 (0, 0))) ∧ (w'.heap[s_.2]? = some (.cells #[.int .i64 0, .int .i64 0] 42 (0, 0))) ∧ (w.heap.size ≤ s_.1) ∧ (w.heap.size ≤ s_.1) ∧ (gb349 ≠ s_.1) ∧ (s_.1 ≠ gb349) ∧ (gb350 ≠ s_.1) ∧ (s_.1 ≠ gb350) ∧ (s_.2 ≠ s_.1) ∧ (s_.1 ≠ s_.2) ∧ (w.heap.size ≤ s_.2) ∧ (w.heap.size ≤ s_.2) ∧ (gb349 ≠ s_.2) ∧ (s_.2 ≠ gb349) ∧ (gb350 ≠ s_.2) ∧ (s_.2 ≠ gb350) ∧ (Below w.heap.size w w')) ?_ ?_
   rotate_left
   ·intro hCont
    refine two_ (i := 10) (j := 11) (Ni := some 9) (Nj := some 10) spec_l23Word.m26 spec_l23Word.m25 rfl rfl rfl rfl (two_of HT_.out (by kernel_rfl)) (by decide) (by decide) (fun K hK => ?_) (fun K hK => ?_)
    ·skip
     refine box_step ?hg (N := 9) ?hd (cs := #[.int .i64 0, .int .i64 0]) (t := 42) ?hr ?_; (case hd => rfl); (case hg => rfl); (case hr => first | (go_simp; done) | (go_simp; rfl))
     intro gb364 hg w105 hbox hb
     have HS0_ := (hb.cell (World.block_lt_of_cell? _ _ (hHeld.1))).trans (hHeld.1)
     have HS1_ := (hb.cell (World.block_lt_of_cell? _ _ (hHeld.2.1))).trans (hHeld.2.1)
     have HS2_ := (hb.cell (World.block_lt_of_cell? _ _ (hHeld.2.2.1))).trans (hHeld.2.2.1)
     have HS3_ := (hb.cell (World.block_lt_of_cell? _ _ (hHeld.2.2.2))).trans (hHeld.2.2.2)
     have n0_ := am (Kd.R_below (zR HO353) hb)
     have n1_ := am (Kd.R_below (Kd.R_elderB (zR HO356) gb364 (Nat.le_of_eq hg.symm)) hb)
     have n2_ := am (Kd.R_below (Kd.R_elderB (zR HO361) gb364 (Nat.le_of_eq hg.symm)) hb)
     have n3_ := am (Bk4 (g := gb349) (o := .cells #[.int .i64 ((rd_T42 l0 0).f0), .int .i64 ((rd_T42 l0 0).f1)] 42 (0, 0)) (zK BK349) hb)
     have n4_ := am (Bk4 (g := gb350) (o := .cells #[.int .i64 (wrap64 (x351000_1 + ((rd_T42 y354 x6_1).f0))), .int .i64 (wrap64 (x351001_1 + ((rd_T42 y354 x6_1).f1)))] 42 (0, 0)) (zK BK350) hb)
     have n5_ := am (Bb6 (by repeat (first | (with_reducible first | exact HB.out | apply Bb1 | apply Bb2 | apply Bb3 | refine Bb4 ?_ GE349.out | refine Bb4 ?_ GE350.out) | exact HB.out)) hb)
     have n6_ := am (hbox)
     have n7_ := am ((by rw [hg]; exact (Bb5 (by repeat (first | (with_reducible first | exact HB.out | apply Bb1 | apply Bb2 | apply Bb3 | refine Bb4 ?_ GE349.out | refine Bb4 ?_ GE350.out) | exact HB.out))) : w.heap.size ≤ gb364))
     have n8_ := am ((by rw [hg]; exact (Bb5 (by repeat (first | (with_reducible first | exact HB.out | apply Bb1 | apply Bb2 | apply Bb3 | refine Bb4 ?_ GE349.out | refine Bb4 ?_ GE350.out) | exact HB.out))) : w.heap.size ≤ gb364))
     have n9_ := am ((by rw [hg]; exact nl (Bk5 (g := gb349) (o := .cells #[.int .i64 ((rd_T42 l0 0).f0), .int .i64 ((rd_T42 l0 0).f1)] 42 (0, 0)) (zK BK349)) : gb349 ≠ gb364))
     have n10_ := am ((by rw [hg]; exact ng (Bk5 (g := gb349) (o := .cells #[.int .i64 ((rd_T42 l0 0).f0), .int .i64 ((rd_T42 l0 0).f1)] 42 (0, 0)) (zK BK349)) : gb364 ≠ gb349))
     have n11_ := am ((by rw [hg]; exact nl (Bk5 (g := gb350) (o := .cells #[.int .i64 (wrap64 (x351000_1 + ((rd_T42 y354 x6_1).f0))), .int .i64 (wrap64 (x351001_1 + ((rd_T42 y354 x6_1).f1)))] 42 (0, 0)) (zK BK350)) : gb350 ≠ gb364))
     have n12_ := am ((by rw [hg]; exact ng (Bk5 (g := gb350) (o := .cells #[.int .i64 (wrap64 (x351000_1 + ((rd_T42 y354 x6_1).f0))), .int .i64 (wrap64 (x351001_1 + ((rd_T42 y354 x6_1).f1)))] 42 (0, 0)) (zK BK350)) : gb364 ≠ gb350))
     clear HO353
     clear HO356
     clear HO361
     clear BK349
     clear BK350
     clear HB
     have HO353 := n0_
     have HO356 := n1_
     have HO361 := n2_
     have BK349 := n3_
     have BK350 := n4_
     have HB := n5_
     have BK364 := n6_
     have GW364 := n7_
     have GE364 := n8_
     have NB349_364 := n9_
     have NB364_349 := n10_
     have NB350_364 := n11_
     have NB364_350 := n12_
     clear n0_ n1_ n2_ n3_ n4_ n5_ n6_ n7_ n8_ n9_ n10_ n11_ n12_
     clear hb hbox hg
     refine hK.out _ _ ⟨HS0_, HS1_, HS2_, HS3_⟩ (fun hHeld => ?_)
     clear hK K
     refine norm_ (a' := ?_) ?_ ?_
     rotate_left
     ·show Act.put _ (some 9) _ = _
      simp only [Act.put, sa, i64_w, i32_w]
      rfl
     refine one_ (i := 11) (N := some 10) spec_l23Word.m27 rfl rfl (one_of HT_.out (by kernel_rfl)) (by decide) (fun K hK => ?_)
     refine box_step ?hg (N := 10) ?hd (cs := #[.int .i64 0, .int .i64 0]) (t := 42) ?hr ?_; (case hd => rfl); (case hg => rfl); (case hr => first | (go_simp; done) | (go_simp; rfl))
     intro gb365 hg w106 hbox hb
     have HS0_ := (hb.cell (World.block_lt_of_cell? _ _ (hHeld.1))).trans (hHeld.1)
     have HS1_ := (hb.cell (World.block_lt_of_cell? _ _ (hHeld.2.1))).trans (hHeld.2.1)
     have HS2_ := (hb.cell (World.block_lt_of_cell? _ _ (hHeld.2.2.1))).trans (hHeld.2.2.1)
     have HS3_ := (hb.cell (World.block_lt_of_cell? _ _ (hHeld.2.2.2))).trans (hHeld.2.2.2)
     have n0_ := am (Kd.R_below (zR HO353) hb)
     have n1_ := am (Kd.R_below (Kd.R_elderB (zR HO356) gb365 (Nat.le_of_eq hg.symm)) hb)
     have n2_ := am (Kd.R_below (Kd.R_elderB (zR HO361) gb365 (Nat.le_of_eq hg.symm)) hb)
     have n3_ := am (Bk4 (g := gb349) (o := .cells #[.int .i64 ((rd_T42 l0 0).f0), .int .i64 ((rd_T42 l0 0).f1)] 42 (0, 0)) (zK BK349) hb)
     have n4_ := am (Bk4 (g := gb350) (o := .cells #[.int .i64 (wrap64 (x351000_1 + ((rd_T42 y354 x6_1).f0))), .int .i64 (wrap64 (x351001_1 + ((rd_T42 y354 x6_1).f1)))] 42 (0, 0)) (zK BK350) hb)
     have n5_ := am (Bk4 (g := gb364) (o := .cells #[.int .i64 0, .int .i64 0] 42 (0, 0)) (zK BK364) hb)
     have n6_ := am (Bb6 (by repeat (first | (with_reducible first | exact HB.out | apply Bb1 | apply Bb2 | apply Bb3 | refine Bb4 ?_ GE349.out | refine Bb4 ?_ GE350.out | refine Bb4 ?_ GE364.out) | exact HB.out)) hb)
     have n7_ := am (hbox)
     have n8_ := am ((by rw [hg]; exact (Bb5 (by repeat (first | (with_reducible first | exact HB.out | apply Bb1 | apply Bb2 | apply Bb3 | refine Bb4 ?_ GE349.out | refine Bb4 ?_ GE350.out | refine Bb4 ?_ GE364.out) | exact HB.out))) : w.heap.size ≤ gb365))
     have n9_ := am ((by rw [hg]; exact (Bb5 (by repeat (first | (with_reducible first | exact HB.out | apply Bb1 | apply Bb2 | apply Bb3 | refine Bb4 ?_ GE349.out | refine Bb4 ?_ GE350.out | refine Bb4 ?_ GE364.out) | exact HB.out))) : w.heap.size ≤ gb365))
     have n10_ := am ((by rw [hg]; exact nl (Bk5 (g := gb349) (o := .cells #[.int .i64 ((rd_T42 l0 0).f0), .int .i64 ((rd_T42 l0 0).f1)] 42 (0, 0)) (zK BK349)) : gb349 ≠ gb365))
     have n11_ := am ((by rw [hg]; exact ng (Bk5 (g := gb349) (o := .cells #[.int .i64 ((rd_T42 l0 0).f0), .int .i64 ((rd_T42 l0 0).f1)] 42 (0, 0)) (zK BK349)) : gb365 ≠ gb349))
     have n12_ := am ((by rw [hg]; exact nl (Bk5 (g := gb350) (o := .cells #[.int .i64 (wrap64 (x351000_1 + ((rd_T42 y354 x6_1).f0))), .int .i64 (wrap64 (x351001_1 + ((rd_T42 y354 x6_1).f1)))] 42 (0, 0)) (zK BK350)) : gb350 ≠ gb365))
     have n13_ := am ((by rw [hg]; exact ng (Bk5 (g := gb350) (o := .cells #[.int .i64 (wrap64 (x351000_1 + ((rd_T42 y354 x6_1).f0))), .int .i64 (wrap64 (x351001_1 + ((rd_T42 y354 x6_1).f1)))] 42 (0, 0)) (zK BK350)) : gb365 ≠ gb350))
     have n14_ := am ((by rw [hg]; exact nl (Bk5 (g := gb364) (o := .cells #[.int .i64 0, .int .i64 0] 42 (0, 0)) (zK BK364)) : gb364 ≠ gb365))
     have n15_ := am ((by rw [hg]; exact ng (Bk5 (g := gb364) (o := .cells #[.int .i64 0, .int .i64 0] 42 (0, 0)) (zK BK364)) : gb365 ≠ gb364))
     clear HO353
     clear HO356
     clear HO361
     clear BK349
     clear BK350
     clear BK364
     clear HB
     have HO353 := n0_
     have HO356 := n1_
     have HO361 := n2_
     have BK349 := n3_
     have BK350 := n4_
     have BK364 := n5_
     have HB := n6_
     have BK365 := n7_
     have GW365 := n8_
     have GE365 := n9_
     have NB349_365 := n10_
     have NB365_349 := n11_
     have NB350_365 := n12_
     have NB365_350 := n13_
     have NB364_365 := n14_
     have NB365_364 := n15_
     clear n0_ n1_ n2_ n3_ n4_ n5_ n6_ n7_ n8_ n9_ n10_ n11_ n12_ n13_ n14_ n15_
     clear hb hbox hg
     refine hK.out _ _ ⟨HS0_, HS1_, HS2_, HS3_⟩ (fun hHeld => ?_)
     clear hK K
     refine norm_ (a' := ?_) ?_ ?_
     rotate_left
     ·show Act.put _ (some 10) _ = _
      simp only [Act.put, sa, i64_w, i32_w]
      rfl
     exact norm_ (by simp only [putAll, Act.put, sa]) (hCont (gb364, gb365) _ ⟨hHeld, (zR HO353), (by (with_reducible repeat (first | apply Kd.R_alloc | apply Kd.R_drewN | apply Kd.R_drew)); exact Kd.R_mono HO356.out (fun _ hk => ⟨hk.1.1.2, ⟨hk.1.1.1.1.2, ⟨hk.1.1.1.2, ⟨hk.1.2, hk.2⟩⟩⟩⟩)), (by (with_reducible repeat (first | apply Kd.R_alloc | apply Kd.R_drewN | apply Kd.R_drew)); exact Kd.R_mono HO361.out (fun _ hk => ⟨hk.1.1.1.1.2, ⟨hk.1.1.1.2, ⟨hk.1.1.2, ⟨hk.1.2, hk.2⟩⟩⟩⟩)), (zK BK349), (zK BK350), (zK BK364), (zK BK365), GW364.out, GE364.out, NB349_364.out, NB364_349.out, NB350_364.out, NB364_350.out, NB365_364.out, NB364_365.out, GW365.out, GE365.out, NB349_365.out, NB365_349.out, NB350_365.out, NB365_350.out, (by repeat (first | (with_reducible first | exact HB.out | apply Bb1 | apply Bb2 | apply Bb3 | refine Bb4 ?_ GE349.out | refine Bb4 ?_ GE350.out | refine Bb4 ?_ GE364.out | refine Bb4 ?_ GE365.out) | exact HB.out))⟩)
    skip
    refine box_step ?hg (N := 10) ?hd (cs := #[.int .i64 0, .int .i64 0]) (t := 42) ?hr ?_; (case hd => rfl); (case hg => rfl); (case hr => first | (go_simp; done) | (go_simp; rfl))
    intro gb365 hg w105 hbox hb
    have HS0_ := (hb.cell (World.block_lt_of_cell? _ _ (hHeld.1))).trans (hHeld.1)
    have HS1_ := (hb.cell (World.block_lt_of_cell? _ _ (hHeld.2.1))).trans (hHeld.2.1)
    have HS2_ := (hb.cell (World.block_lt_of_cell? _ _ (hHeld.2.2.1))).trans (hHeld.2.2.1)
    have HS3_ := (hb.cell (World.block_lt_of_cell? _ _ (hHeld.2.2.2))).trans (hHeld.2.2.2)
    have n0_ := am (Kd.R_below (zR HO353) hb)
    have n1_ := am (Kd.R_below (Kd.R_elderB (zR HO356) gb365 (Nat.le_of_eq hg.symm)) hb)
    have n2_ := am (Kd.R_below (Kd.R_elderB (zR HO361) gb365 (Nat.le_of_eq hg.symm)) hb)
    have n3_ := am (Bk4 (g := gb349) (o := .cells #[.int .i64 ((rd_T42 l0 0).f0), .int .i64 ((rd_T42 l0 0).f1)] 42 (0, 0)) (zK BK349) hb)
    have n4_ := am (Bk4 (g := gb350) (o := .cells #[.int .i64 (wrap64 (x351000_1 + ((rd_T42 y354 x6_1).f0))), .int .i64 (wrap64 (x351001_1 + ((rd_T42 y354 x6_1).f1)))] 42 (0, 0)) (zK BK350) hb)
    have n5_ := am (Bb6 (by repeat (first | (with_reducible first | exact HB.out | apply Bb1 | apply Bb2 | apply Bb3 | refine Bb4 ?_ GE349.out | refine Bb4 ?_ GE350.out) | exact HB.out)) hb)
    have n6_ := am (hbox)
    have n7_ := am ((by rw [hg]; exact (Bb5 (by repeat (first | (with_reducible first | exact HB.out | apply Bb1 | apply Bb2 | apply Bb3 | refine Bb4 ?_ GE349.out | refine Bb4 ?_ GE350.out) | exact HB.out))) : w.heap.size ≤ gb365))
    have n8_ := am ((by rw [hg]; exact (Bb5 (by repeat (first | (with_reducible first | exact HB.out | apply Bb1 | apply Bb2 | apply Bb3 | refine Bb4 ?_ GE349.out | refine Bb4 ?_ GE350.out) | exact HB.out))) : w.heap.size ≤ gb365))
    have n9_ := am ((by rw [hg]; exact nl (Bk5 (g := gb349) (o := .cells #[.int .i64 ((rd_T42 l0 0).f0), .int .i64 ((rd_T42 l0 0).f1)] 42 (0, 0)) (zK BK349)) : gb349 ≠ gb365))
    have n10_ := am ((by rw [hg]; exact ng (Bk5 (g := gb349) (o := .cells #[.int .i64 ((rd_T42 l0 0).f0), .int .i64 ((rd_T42 l0 0).f1)] 42 (0, 0)) (zK BK349)) : gb365 ≠ gb349))
    have n11_ := am ((by rw [hg]; exact nl (Bk5 (g := gb350) (o := .cells #[.int .i64 (wrap64 (x351000_1 + ((rd_T42 y354 x6_1).f0))), .int .i64 (wrap64 (x351001_1 + ((rd_T42 y354 x6_1).f1)))] 42 (0, 0)) (zK BK350)) : gb350 ≠ gb365))
    have n12_ := am ((by rw [hg]; exact ng (Bk5 (g := gb350) (o := .cells #[.int .i64 (wrap64 (x351000_1 + ((rd_T42 y354 x6_1).f0))), .int .i64 (wrap64 (x351001_1 + ((rd_T42 y354 x6_1).f1)))] 42 (0, 0)) (zK BK350)) : gb365 ≠ gb350))
    clear HO353
    clear HO356
    clear HO361
    clear BK349
    clear BK350
    clear HB
    have HO353 := n0_
    have HO356 := n1_
    have HO361 := n2_
    have BK349 := n3_
    have BK350 := n4_
    have HB := n5_
    have BK365 := n6_
    have GW365 := n7_
    have GE365 := n8_
    have NB349_365 := n9_
    have NB365_349 := n10_
    have NB350_365 := n11_
    have NB365_350 := n12_
    clear n0_ n1_ n2_ n3_ n4_ n5_ n6_ n7_ n8_ n9_ n10_ n11_ n12_
    clear hb hbox hg
    refine hK.out _ _ ⟨HS0_, HS1_, HS2_, HS3_⟩ (fun hHeld => ?_)
    clear hK K
    refine norm_ (a' := ?_) ?_ ?_
    rotate_left
    ·show Act.put _ (some 10) _ = _
     simp only [Act.put, sa, i64_w, i32_w]
     rfl
    refine one_ (i := 10) (N := some 9) spec_l23Word.m27 rfl rfl (one_of HT_.out (by kernel_rfl)) (by decide) (fun K hK => ?_)
    refine box_step ?hg (N := 9) ?hd (cs := #[.int .i64 0, .int .i64 0]) (t := 42) ?hr ?_; (case hd => rfl); (case hg => rfl); (case hr => first | (go_simp; done) | (go_simp; rfl))
    intro gb364 hg w106 hbox hb
    have HS0_ := (hb.cell (World.block_lt_of_cell? _ _ (hHeld.1))).trans (hHeld.1)
    have HS1_ := (hb.cell (World.block_lt_of_cell? _ _ (hHeld.2.1))).trans (hHeld.2.1)
    have HS2_ := (hb.cell (World.block_lt_of_cell? _ _ (hHeld.2.2.1))).trans (hHeld.2.2.1)
    have HS3_ := (hb.cell (World.block_lt_of_cell? _ _ (hHeld.2.2.2))).trans (hHeld.2.2.2)
    have n0_ := am (Kd.R_below (zR HO353) hb)
    have n1_ := am (Kd.R_below (Kd.R_elderB (zR HO356) gb364 (Nat.le_of_eq hg.symm)) hb)
    have n2_ := am (Kd.R_below (Kd.R_elderB (zR HO361) gb364 (Nat.le_of_eq hg.symm)) hb)
    have n3_ := am (Bk4 (g := gb349) (o := .cells #[.int .i64 ((rd_T42 l0 0).f0), .int .i64 ((rd_T42 l0 0).f1)] 42 (0, 0)) (zK BK349) hb)
    have n4_ := am (Bk4 (g := gb350) (o := .cells #[.int .i64 (wrap64 (x351000_1 + ((rd_T42 y354 x6_1).f0))), .int .i64 (wrap64 (x351001_1 + ((rd_T42 y354 x6_1).f1)))] 42 (0, 0)) (zK BK350) hb)
    have n5_ := am (Bk4 (g := gb365) (o := .cells #[.int .i64 0, .int .i64 0] 42 (0, 0)) (zK BK365) hb)
    have n6_ := am (Bb6 (by repeat (first | (with_reducible first | exact HB.out | apply Bb1 | apply Bb2 | apply Bb3 | refine Bb4 ?_ GE349.out | refine Bb4 ?_ GE350.out | refine Bb4 ?_ GE365.out) | exact HB.out)) hb)
    have n7_ := am (hbox)
    have n8_ := am ((by rw [hg]; exact (Bb5 (by repeat (first | (with_reducible first | exact HB.out | apply Bb1 | apply Bb2 | apply Bb3 | refine Bb4 ?_ GE349.out | refine Bb4 ?_ GE350.out | refine Bb4 ?_ GE365.out) | exact HB.out))) : w.heap.size ≤ gb364))
    have n9_ := am ((by rw [hg]; exact (Bb5 (by repeat (first | (with_reducible first | exact HB.out | apply Bb1 | apply Bb2 | apply Bb3 | refine Bb4 ?_ GE349.out | refine Bb4 ?_ GE350.out | refine Bb4 ?_ GE365.out) | exact HB.out))) : w.heap.size ≤ gb364))
    have n10_ := am ((by rw [hg]; exact nl (Bk5 (g := gb349) (o := .cells #[.int .i64 ((rd_T42 l0 0).f0), .int .i64 ((rd_T42 l0 0).f1)] 42 (0, 0)) (zK BK349)) : gb349 ≠ gb364))
    have n11_ := am ((by rw [hg]; exact ng (Bk5 (g := gb349) (o := .cells #[.int .i64 ((rd_T42 l0 0).f0), .int .i64 ((rd_T42 l0 0).f1)] 42 (0, 0)) (zK BK349)) : gb364 ≠ gb349))
    have n12_ := am ((by rw [hg]; exact nl (Bk5 (g := gb350) (o := .cells #[.int .i64 (wrap64 (x351000_1 + ((rd_T42 y354 x6_1).f0))), .int .i64 (wrap64 (x351001_1 + ((rd_T42 y354 x6_1).f1)))] 42 (0, 0)) (zK BK350)) : gb350 ≠ gb364))
    have n13_ := am ((by rw [hg]; exact ng (Bk5 (g := gb350) (o := .cells #[.int .i64 (wrap64 (x351000_1 + ((rd_T42 y354 x6_1).f0))), .int .i64 (wrap64 (x351001_1 + ((rd_T42 y354 x6_1).f1)))] 42 (0, 0)) (zK BK350)) : gb364 ≠ gb350))
    have n14_ := am ((by rw [hg]; exact nl (Bk5 (g := gb365) (o := .cells #[.int .i64 0, .int .i64 0] 42 (0, 0)) (zK BK365)) : gb365 ≠ gb364))
    have n15_ := am ((by rw [hg]; exact ng (Bk5 (g := gb365) (o := .cells #[.int .i64 0, .int .i64 0] 42 (0, 0)) (zK BK365)) : gb364 ≠ gb365))
    clear HO353
    clear HO356
    clear HO361
    clear BK349
    clear BK350
    clear BK365
    clear HB
    have HO353 := n0_
    have HO356 := n1_
    have HO361 := n2_
    have BK349 := n3_
    have BK350 := n4_
    have BK365 := n5_
    have HB := n6_
    have BK364 := n7_
    have GW364 := n8_
    have GE364 := n9_
    have NB349_364 := n10_
    have NB364_349 := n11_
    have NB350_364 := n12_
    have NB364_350 := n13_
    have NB365_364 := n14_
    have NB364_365 := n15_
    clear n0_ n1_ n2_ n3_ n4_ n5_ n6_ n7_ n8_ n9_ n10_ n11_ n12_ n13_ n14_ n15_
    clear hb hbox hg
    refine hK.out _ _ ⟨HS0_, HS1_, HS2_, HS3_⟩ (fun hHeld => ?_)
    clear hK K
    refine norm_ (a' := ?_) ?_ ?_
    rotate_left
    ·show Act.put _ (some 9) _ = _
     simp only [Act.put, sa, i64_w, i32_w]
     rfl
    exact norm_ (by simp only [putAll, Act.put, sa]) (hCont (gb364, gb365) _ ⟨hHeld, (zR HO353), (by (with_reducible repeat (first | apply Kd.R_alloc | apply Kd.R_drewN | apply Kd.R_drew)); exact Kd.R_mono HO356.out (fun _ hk => ⟨hk.1.1.2, ⟨hk.1.1.1.1.2, ⟨hk.1.1.1.2, ⟨hk.2, hk.1.2⟩⟩⟩⟩)), (by (with_reducible repeat (first | apply Kd.R_alloc | apply Kd.R_drewN | apply Kd.R_drew)); exact Kd.R_mono HO361.out (fun _ hk => ⟨hk.1.1.1.1.2, ⟨hk.1.1.1.2, ⟨hk.1.1.2, ⟨hk.2, hk.1.2⟩⟩⟩⟩)), (zK BK349), (zK BK350), (zK BK364), (zK BK365), GW364.out, GE364.out, NB349_364.out, NB364_349.out, NB350_364.out, NB364_350.out, NB365_364.out, NB364_365.out, GW365.out, GE365.out, NB349_365.out, NB365_349.out, NB350_365.out, NB365_350.out, (by repeat (first | (with_reducible first | exact HB.out | apply Bb1 | apply Bb2 | apply Bb3 | refine Bb4 ?_ GE349.out | refine Bb4 ?_ GE350.out | refine Bb4 ?_ GE365.out | refine Bb4 ?_ GE364.out) | exact HB.out))⟩)
   rintro ⟨gb364, gb365⟩ w107 ⟨hS_, h0_, h1_, h2_, h3_, h4_, h5_, h6_, h7_, h8_, h9_, h10_, h11_, h12_, h13_, h14_, h15_, h16_, h17_, h18_, h19_, h20_, h21_⟩
   have n0_ : Aside0 (Kd.R (Kd.int .u8) 5 w107 w.heap.size (fun _ => True) v352 y351) := ⟨h0_⟩
   have n1_ : Aside0 (Kd.R k42 42 w107 w.heap.size (fun k_ => some k_ ≠ (.slice (some ad362) y359.length co104 : Value).ownBlock ∧ k_ ≠ gb349 ∧ k_ ≠ gb350 ∧ k_ ≠ gb364 ∧ k_ ≠ gb365) (.slice (some ad357) y354.length co95) y354) := ⟨h1_⟩
   have n2_ : Aside0 (Kd.R k42 42 w107 w.heap.size (fun k_ => some k_ ≠ (.slice (some ad357) y354.length co95 : Value).ownBlock ∧ k_ ≠ gb349 ∧ k_ ≠ gb350 ∧ k_ ≠ gb364 ∧ k_ ≠ gb365) (.slice (some ad362) y359.length co104) y359) := ⟨h2_⟩
   have n3_ : Aside0 (w107.heap[gb349]? = some (.cells #[.int .i64 ((rd_T42 l0 0).f0), .int .i64 ((rd_T42 l0 0).f1)] 42 (0, 0))) := ⟨h3_⟩
   have n4_ : Aside0 (w107.heap[gb350]? = some (.cells #[.int .i64 (wrap64 (x351000_1 + ((rd_T42 y354 x6_1).f0))), .int .i64 (wrap64 (x351001_1 + ((rd_T42 y354 x6_1).f1)))] 42 (0, 0))) := ⟨h4_⟩
   have n5_ : Aside0 (w107.heap[gb364]? = some (.cells #[.int .i64 0, .int .i64 0] 42 (0, 0))) := ⟨h5_⟩
   have n6_ : Aside0 (w107.heap[gb365]? = some (.cells #[.int .i64 0, .int .i64 0] 42 (0, 0))) := ⟨h6_⟩
   have n7_ : Aside0 (w.heap.size ≤ gb364) := ⟨h7_⟩
   have n8_ : Aside0 (w.heap.size ≤ gb364) := ⟨h8_⟩
   have n9_ : Aside0 (gb349 ≠ gb364) := ⟨h9_⟩
   have n10_ : Aside0 (gb364 ≠ gb349) := ⟨h10_⟩
   have n11_ : Aside0 (gb350 ≠ gb364) := ⟨h11_⟩
   have n12_ : Aside0 (gb364 ≠ gb350) := ⟨h12_⟩
   have n13_ : Aside0 (gb365 ≠ gb364) := ⟨h13_⟩
   have n14_ : Aside0 (gb364 ≠ gb365) := ⟨h14_⟩
   have n15_ : Aside0 (w.heap.size ≤ gb365) := ⟨h15_⟩
   have n16_ : Aside0 (w.heap.size ≤ gb365) := ⟨h16_⟩
   have n17_ : Aside0 (gb349 ≠ gb365) := ⟨h17_⟩
   have n18_ : Aside0 (gb365 ≠ gb349) := ⟨h18_⟩
   have n19_ : Aside0 (gb350 ≠ gb365) := ⟨h19_⟩
   have n20_ : Aside0 (gb365 ≠ gb350) := ⟨h20_⟩
   have n21_ : Aside0 (Below w.heap.size w w107) := ⟨h21_⟩
   clear HO353
   clear HO356
   clear HO361
   clear BK349
   clear BK350
   clear HB
   clear h0_ h1_ h2_ h3_ h4_ h5_ h6_ h7_ h8_ h9_ h10_ h11_ h12_ h13_ h14_ h15_ h16_ h17_ h18_ h19_ h20_ h21_
   have HO353 := n0_
   have HO356 := n1_
   have HO361 := n2_
   have BK349 := n3_
   have BK350 := n4_
   have BK364 := n5_
   have BK365 := n6_
   have GW364 := n7_
   have GE364 := n8_
   have NB349_364 := n9_
   have NB364_349 := n10_
   have NB350_364 := n11_
   have NB364_350 := n12_
   have NB365_364 := n13_
   have NB364_365 := n14_
   have GW365 := n15_
   have GE365 := n16_
   have NB349_365 := n17_
   have NB365_349 := n18_
   have NB350_365 := n19_
   have NB365_350 := n20_
   have HB := n21_
   clear n0_ n1_ n2_ n3_ n4_ n5_ n6_ n7_ n8_ n9_ n10_ n11_ n12_ n13_ n14_ n15_ n16_ n17_ n18_ n19_ n20_ n21_
   have hHeld : w107.cell? (ad362.add ((x6_1).toNat * 2)) = some (.int .i64 ((rd_T42 y359 x6_1).f0)) ∧ w107.cell? ⟨(ad362.add ((x6_1).toNat * 2)).block, (ad362.add ((x6_1).toNat * 2)).off + 1, none⟩ = some (.int .i64 ((rd_T42 y359 x6_1).f1)) ∧ w107.cell? (ad362.add (((ji28)).toNat * 2)) = some (.int .i64 ((rd_T42 y359 (ji28)).f0)) ∧ w107.cell? ⟨(ad362.add (((ji28)).toNat * 2)).block, (ad362.add (((ji28)).toNat * 2)).off + 1, none⟩ = some (.int .i64 ((rd_T42 y359 (ji28)).f1)) := hS_
   refine norm_ (a' := ?_) ?_ ?_
   rotate_left
   ·simp only [putAll, Act.put, sa]
    rfl
   refine one_ (i := 12) (N := none) spec_l23Word.m28 rfl rfl (one_of HT_.out (by kernel_rfl)) (by decide) (fun K hK => ?_)
   have hs108 : w107.cell? ⟨gb364, 0, none⟩ = some (.int .i64 0) := (kc BK364.out 0).trans rfl
   have hfs108 := kf BK364.out 0
   have hns108_0 := NB349_364.out
   have hns108_1 := NB350_364.out
   have hns108_3 := NB365_364.out
   have hms108_0 := NB364_349.out
   have hms108_1 := NB364_350.out
   have hms108_3 := NB364_365.out
   have hs109 : w107.cell? ⟨gb364, 1, none⟩ = some (.int .i64 0) := (kc BK364.out 1).trans rfl
   have hfs109 := kf BK364.out 1
   have hns109_0 := NB349_364.out
   have hns109_1 := NB350_364.out
   have hns109_3 := NB365_364.out
   have hms109_0 := NB364_349.out
   have hms109_1 := NB364_350.out
   have hms109_3 := NB364_365.out
   refine skip_ (w1 := ?_) (by rfl) rfl ?_ ?_
   rotate_left
   ·go_simp
    rfl
   refine hK.out _ _ ⟨((cell_far (p := ⟨gb364, _, none⟩) (by first | exact Kd.own_blk (Kd.R_away HO361.out (fun _ hk => hk.2.2.2.1)) | (rw [add_block]; exact Kd.own_blk (Kd.R_away HO361.out (fun _ hk => hk.2.2.2.1))) | (show (Addr.add _ _).block ≠ _; rw [add_block]; exact Kd.own_blk (Kd.R_away HO361.out (fun _ hk => hk.2.2.2.1))) | (dsimp only; exact Kd.own_blk (Kd.R_away HO361.out (fun _ hk => hk.2.2.2.1)))) _).trans (((cell_far (p := ⟨gb364, _, none⟩) (by first | exact Kd.own_blk (Kd.R_away HO361.out (fun _ hk => hk.2.2.2.1)) | (rw [add_block]; exact Kd.own_blk (Kd.R_away HO361.out (fun _ hk => hk.2.2.2.1))) | (show (Addr.add _ _).block ≠ _; rw [add_block]; exact Kd.own_blk (Kd.R_away HO361.out (fun _ hk => hk.2.2.2.1))) | (dsimp only; exact Kd.own_blk (Kd.R_away HO361.out (fun _ hk => hk.2.2.2.1)))) _).trans (hHeld.1)))), ((cell_far (p := ⟨gb364, _, none⟩) (by first | exact Kd.own_blk (Kd.R_away HO361.out (fun _ hk => hk.2.2.2.1)) | (rw [add_block]; exact Kd.own_blk (Kd.R_away HO361.out (fun _ hk => hk.2.2.2.1))) | (show (Addr.add _ _).block ≠ _; rw [add_block]; exact Kd.own_blk (Kd.R_away HO361.out (fun _ hk => hk.2.2.2.1))) | (dsimp only; exact Kd.own_blk (Kd.R_away HO361.out (fun _ hk => hk.2.2.2.1)))) _).trans (((cell_far (p := ⟨gb364, _, none⟩) (by first | exact Kd.own_blk (Kd.R_away HO361.out (fun _ hk => hk.2.2.2.1)) | (rw [add_block]; exact Kd.own_blk (Kd.R_away HO361.out (fun _ hk => hk.2.2.2.1))) | (show (Addr.add _ _).block ≠ _; rw [add_block]; exact Kd.own_blk (Kd.R_away HO361.out (fun _ hk => hk.2.2.2.1))) | (dsimp only; exact Kd.own_blk (Kd.R_away HO361.out (fun _ hk => hk.2.2.2.1)))) _).trans (hHeld.2.1)))), ((cell_far (p := ⟨gb364, _, none⟩) (by first | exact Kd.own_blk (Kd.R_away HO361.out (fun _ hk => hk.2.2.2.1)) | (rw [add_block]; exact Kd.own_blk (Kd.R_away HO361.out (fun _ hk => hk.2.2.2.1))) | (show (Addr.add _ _).block ≠ _; rw [add_block]; exact Kd.own_blk (Kd.R_away HO361.out (fun _ hk => hk.2.2.2.1))) | (dsimp only; exact Kd.own_blk (Kd.R_away HO361.out (fun _ hk => hk.2.2.2.1)))) _).trans (((cell_far (p := ⟨gb364, _, none⟩) (by first | exact Kd.own_blk (Kd.R_away HO361.out (fun _ hk => hk.2.2.2.1)) | (rw [add_block]; exact Kd.own_blk (Kd.R_away HO361.out (fun _ hk => hk.2.2.2.1))) | (show (Addr.add _ _).block ≠ _; rw [add_block]; exact Kd.own_blk (Kd.R_away HO361.out (fun _ hk => hk.2.2.2.1))) | (dsimp only; exact Kd.own_blk (Kd.R_away HO361.out (fun _ hk => hk.2.2.2.1)))) _).trans (hHeld.2.2.1)))), ((cell_far (p := ⟨gb364, _, none⟩) (by first | exact Kd.own_blk (Kd.R_away HO361.out (fun _ hk => hk.2.2.2.1)) | (rw [add_block]; exact Kd.own_blk (Kd.R_away HO361.out (fun _ hk => hk.2.2.2.1))) | (show (Addr.add _ _).block ≠ _; rw [add_block]; exact Kd.own_blk (Kd.R_away HO361.out (fun _ hk => hk.2.2.2.1))) | (dsimp only; exact Kd.own_blk (Kd.R_away HO361.out (fun _ hk => hk.2.2.2.1)))) _).trans (((cell_far (p := ⟨gb364, _, none⟩) (by first | exact Kd.own_blk (Kd.R_away HO361.out (fun _ hk => hk.2.2.2.1)) | (rw [add_block]; exact Kd.own_blk (Kd.R_away HO361.out (fun _ hk => hk.2.2.2.1))) | (show (Addr.add _ _).block ≠ _; rw [add_block]; exact Kd.own_blk (Kd.R_away HO361.out (fun _ hk => hk.2.2.2.1))) | (dsimp only; exact Kd.own_blk (Kd.R_away HO361.out (fun _ hk => hk.2.2.2.1)))) _).trans (hHeld.2.2.2))))⟩ (fun hHeld => ?_)
   clear hK K
   refine one_ (i := 13) (N := none) spec_l23Word.m34 rfl rfl (one_of HT_.out (by kernel_rfl)) (by decide) (fun K hK => ?_)
   have hs110 : w107.cell? ⟨gb365, 0, none⟩ = some (.int .i64 0) := (kc BK365.out 0).trans rfl
   have hfs110 := kf BK365.out 0
   have hns110_0 := NB349_365.out
   have hns110_1 := NB350_365.out
   have hns110_2 := NB364_365.out
   have hms110_0 := NB365_349.out
   have hms110_1 := NB365_350.out
   have hms110_2 := NB365_364.out
   have hs111 : w107.cell? ⟨gb365, 1, none⟩ = some (.int .i64 0) := (kc BK365.out 1).trans rfl
   have hfs111 := kf BK365.out 1
   have hns111_0 := NB349_365.out
   have hns111_1 := NB350_365.out
   have hns111_2 := NB364_365.out
   have hms111_0 := NB365_349.out
   have hms111_1 := NB365_350.out
   have hms111_2 := NB365_364.out
   refine skip_ (w1 := ?_) (by rfl) rfl ?_ ?_
   rotate_left
   ·go_simp
    rfl
   refine hK.out _ _ ⟨((cell_far (p := ⟨gb365, _, none⟩) (by first | exact Kd.own_blk (Kd.R_away HO361.out (fun _ hk => hk.2.2.2.2)) | (rw [add_block]; exact Kd.own_blk (Kd.R_away HO361.out (fun _ hk => hk.2.2.2.2))) | (show (Addr.add _ _).block ≠ _; rw [add_block]; exact Kd.own_blk (Kd.R_away HO361.out (fun _ hk => hk.2.2.2.2))) | (dsimp only; exact Kd.own_blk (Kd.R_away HO361.out (fun _ hk => hk.2.2.2.2)))) _).trans (((cell_far (p := ⟨gb365, _, none⟩) (by first | exact Kd.own_blk (Kd.R_away HO361.out (fun _ hk => hk.2.2.2.2)) | (rw [add_block]; exact Kd.own_blk (Kd.R_away HO361.out (fun _ hk => hk.2.2.2.2))) | (show (Addr.add _ _).block ≠ _; rw [add_block]; exact Kd.own_blk (Kd.R_away HO361.out (fun _ hk => hk.2.2.2.2))) | (dsimp only; exact Kd.own_blk (Kd.R_away HO361.out (fun _ hk => hk.2.2.2.2)))) _).trans (hHeld.1)))), ((cell_far (p := ⟨gb365, _, none⟩) (by first | exact Kd.own_blk (Kd.R_away HO361.out (fun _ hk => hk.2.2.2.2)) | (rw [add_block]; exact Kd.own_blk (Kd.R_away HO361.out (fun _ hk => hk.2.2.2.2))) | (show (Addr.add _ _).block ≠ _; rw [add_block]; exact Kd.own_blk (Kd.R_away HO361.out (fun _ hk => hk.2.2.2.2))) | (dsimp only; exact Kd.own_blk (Kd.R_away HO361.out (fun _ hk => hk.2.2.2.2)))) _).trans (((cell_far (p := ⟨gb365, _, none⟩) (by first | exact Kd.own_blk (Kd.R_away HO361.out (fun _ hk => hk.2.2.2.2)) | (rw [add_block]; exact Kd.own_blk (Kd.R_away HO361.out (fun _ hk => hk.2.2.2.2))) | (show (Addr.add _ _).block ≠ _; rw [add_block]; exact Kd.own_blk (Kd.R_away HO361.out (fun _ hk => hk.2.2.2.2))) | (dsimp only; exact Kd.own_blk (Kd.R_away HO361.out (fun _ hk => hk.2.2.2.2)))) _).trans (hHeld.2.1)))), ((cell_far (p := ⟨gb365, _, none⟩) (by first | exact Kd.own_blk (Kd.R_away HO361.out (fun _ hk => hk.2.2.2.2)) | (rw [add_block]; exact Kd.own_blk (Kd.R_away HO361.out (fun _ hk => hk.2.2.2.2))) | (show (Addr.add _ _).block ≠ _; rw [add_block]; exact Kd.own_blk (Kd.R_away HO361.out (fun _ hk => hk.2.2.2.2))) | (dsimp only; exact Kd.own_blk (Kd.R_away HO361.out (fun _ hk => hk.2.2.2.2)))) _).trans (((cell_far (p := ⟨gb365, _, none⟩) (by first | exact Kd.own_blk (Kd.R_away HO361.out (fun _ hk => hk.2.2.2.2)) | (rw [add_block]; exact Kd.own_blk (Kd.R_away HO361.out (fun _ hk => hk.2.2.2.2))) | (show (Addr.add _ _).block ≠ _; rw [add_block]; exact Kd.own_blk (Kd.R_away HO361.out (fun _ hk => hk.2.2.2.2))) | (dsimp only; exact Kd.own_blk (Kd.R_away HO361.out (fun _ hk => hk.2.2.2.2)))) _).trans (hHeld.2.2.1)))), ((cell_far (p := ⟨gb365, _, none⟩) (by first | exact Kd.own_blk (Kd.R_away HO361.out (fun _ hk => hk.2.2.2.2)) | (rw [add_block]; exact Kd.own_blk (Kd.R_away HO361.out (fun _ hk => hk.2.2.2.2))) | (show (Addr.add _ _).block ≠ _; rw [add_block]; exact Kd.own_blk (Kd.R_away HO361.out (fun _ hk => hk.2.2.2.2))) | (dsimp only; exact Kd.own_blk (Kd.R_away HO361.out (fun _ hk => hk.2.2.2.2)))) _).trans (((cell_far (p := ⟨gb365, _, none⟩) (by first | exact Kd.own_blk (Kd.R_away HO361.out (fun _ hk => hk.2.2.2.2)) | (rw [add_block]; exact Kd.own_blk (Kd.R_away HO361.out (fun _ hk => hk.2.2.2.2))) | (show (Addr.add _ _).block ≠ _; rw [add_block]; exact Kd.own_blk (Kd.R_away HO361.out (fun _ hk => hk.2.2.2.2))) | (dsimp only; exact Kd.own_blk (Kd.R_away HO361.out (fun _ hk => hk.2.2.2.2)))) _).trans (hHeld.2.2.2))))⟩ (fun hHeld => ?_)
   clear hK K
   refine done_ (done_of HT_.out (by kernel_rfl)) ?_
   have hnb112 := NB364_349.out
   have hnc112 := NB349_364.out
   have hnb113 := NB364_350.out
   have hnc113 := NB350_364.out
   have hnb114 := NB364_365.out
   have hnc114 := NB365_364.out
   have hcz115_0 : w107.cell? ⟨gb364, 0, none⟩ = some (.int .i64 0) := (kc BK364.out 0).trans rfl
   have hcz115_1 : w107.cell? ⟨gb364, 1, none⟩ = some (.int .i64 0) := (kc BK364.out 1).trans rfl
   have hfz115_0 := kf BK364.out 0
   have hfz115_1 := kf BK364.out 1
   try go_wp2_with (first | ((with_reducible refine gate_callee (f := 70) rfl ?_); refine goesL_ (some 82) rfl rfl Tryd.func70 (by kernel_rfl) rfl #[.slice (some ad348) l0.length c0, .agg #[.int .i64 ((rd_T42 y359 x6_1).f0), .int .i64 ((rd_T42 y359 x6_1).f1)]] rfl zL ?_; (with_reducible refine (spec_l02Index.calls k1 _ _ l0 ((rd_T42 y359 x6_1).f0) ((rd_T42 y359 x6_1).f1) t366 _ ?side1 ?side2 A31.out).mono ?_); (case side1 => exact Kd.C_below HR0.out (by repeat (first | (with_reducible first | exact HB.out | apply Bb1 | apply Bb2 | apply Bb3 | refine Bb4 ?_ GE349.out | refine Bb4 ?_ GE350.out | refine Bb4 ?_ GE364.out | refine Bb4 ?_ GE365.out) | exact HB.out))); (case side2 => exact HC0.out); rintro e w116 ⟨rfl, hb⟩; refine ⟨_, rfl, ?_⟩; have n0_ := am (Kd.R_below (by (with_reducible repeat (first | apply Kd.R_alloc | apply Kd.R_drewN | apply Kd.R_drew)); exact (Kd.R_mono (Kd.R_mono (Kd.R_far (p := ⟨gb365, 1, none⟩) (Kd.R_far (p := ⟨gb365, 0, none⟩) (Kd.R_far (p := ⟨gb364, 1, none⟩) (Kd.R_far (p := ⟨gb364, 0, none⟩) (Kd.R_types (Kd.R_types HO353.out BK364.out (by decide)) BK365.out (by decide)) (fun _ hk => hk.1.2) (.int .i64 ((rd_T42 y359 x6_1).f0))) (fun _ hk => hk.1.2) (.int .i64 ((rd_T42 y359 x6_1).f1))) (fun _ hk => hk.2) (.int .i64 ((rd_T42 y359 (ji28)).f0))) (fun _ hk => hk.2) (.int .i64 ((rd_T42 y359 (ji28)).f1))) (fun _ h_ => h_.1)) (fun _ h_ => h_.1))) hb); have n1_ := am (Kd.R_below (by (with_reducible repeat (first | apply Kd.R_alloc | apply Kd.R_drewN | apply Kd.R_drew)); exact (Kd.R_mono (Kd.R_mono (Kd.R_far (p := ⟨gb365, 1, none⟩) (Kd.R_far (p := ⟨gb365, 0, none⟩) (Kd.R_far (p := ⟨gb364, 1, none⟩) (Kd.R_far (p := ⟨gb364, 0, none⟩) (Kd.R_mono (Kd.R_mono HO356.out (fun k_ hk => (⟨hk, hk.2.2.2.1⟩ : _ ∧ k_ ≠ gb364))) (fun k_ hk => (⟨hk, hk.1.2.2.2.2⟩ : _ ∧ k_ ≠ gb365))) (fun _ hk => hk.1.2) (.int .i64 ((rd_T42 y359 x6_1).f0))) (fun _ hk => hk.1.2) (.int .i64 ((rd_T42 y359 x6_1).f1))) (fun _ hk => hk.2) (.int .i64 ((rd_T42 y359 (ji28)).f0))) (fun _ hk => hk.2) (.int .i64 ((rd_T42 y359 (ji28)).f1))) (fun _ h_ => h_.1)) (fun _ h_ => h_.1))) hb); have n2_ := am (Kd.R_below (by (with_reducible repeat (first | apply Kd.R_alloc | apply Kd.R_drewN | apply Kd.R_drew)); exact (Kd.R_mono (Kd.R_mono (Kd.R_far (p := ⟨gb365, 1, none⟩) (Kd.R_far (p := ⟨gb365, 0, none⟩) (Kd.R_far (p := ⟨gb364, 1, none⟩) (Kd.R_far (p := ⟨gb364, 0, none⟩) (Kd.R_mono (Kd.R_mono HO361.out (fun k_ hk => (⟨hk, hk.2.2.2.1⟩ : _ ∧ k_ ≠ gb364))) (fun k_ hk => (⟨hk, hk.1.2.2.2.2⟩ : _ ∧ k_ ≠ gb365))) (fun _ hk => hk.1.2) (.int .i64 ((rd_T42 y359 x6_1).f0))) (fun _ hk => hk.1.2) (.int .i64 ((rd_T42 y359 x6_1).f1))) (fun _ hk => hk.2) (.int .i64 ((rd_T42 y359 (ji28)).f0))) (fun _ hk => hk.2) (.int .i64 ((rd_T42 y359 (ji28)).f1))) (fun _ h_ => h_.1)) (fun _ h_ => h_.1))) hb); have n3_ := am (Bk4 (g := gb349) (o := .cells #[.int .i64 ((rd_T42 l0 0).f0), .int .i64 ((rd_T42 l0 0).f1)] 42 (0, 0)) (by (with_reducible repeat (first | refine Bk2 ?_ _ | refine Bk3 ?_ | refine Bk1 ?_ _)); refine blk_far ?_ NB349_365.out _; (with_reducible repeat (first | refine Bk2 ?_ _ | refine Bk3 ?_ | refine Bk1 ?_ _)); refine blk_far ?_ NB349_365.out _; (with_reducible repeat (first | refine Bk2 ?_ _ | refine Bk3 ?_ | refine Bk1 ?_ _)); refine blk_far ?_ NB349_364.out _; (with_reducible repeat (first | refine Bk2 ?_ _ | refine Bk3 ?_ | refine Bk1 ?_ _)); refine blk_far ?_ NB349_364.out _; (with_reducible repeat (first | refine Bk2 ?_ _ | refine Bk3 ?_ | refine Bk1 ?_ _)); exact BK349.out) hb); have n4_ := am (Bk4 (g := gb350) (o := .cells #[.int .i64 (wrap64 (x351000_1 + ((rd_T42 y354 x6_1).f0))), .int .i64 (wrap64 (x351001_1 + ((rd_T42 y354 x6_1).f1)))] 42 (0, 0)) (by (with_reducible repeat (first | refine Bk2 ?_ _ | refine Bk3 ?_ | refine Bk1 ?_ _)); refine blk_far ?_ NB350_365.out _; (with_reducible repeat (first | refine Bk2 ?_ _ | refine Bk3 ?_ | refine Bk1 ?_ _)); refine blk_far ?_ NB350_365.out _; (with_reducible repeat (first | refine Bk2 ?_ _ | refine Bk3 ?_ | refine Bk1 ?_ _)); refine blk_far ?_ NB350_364.out _; (with_reducible repeat (first | refine Bk2 ?_ _ | refine Bk3 ?_ | refine Bk1 ?_ _)); refine blk_far ?_ NB350_364.out _; (with_reducible repeat (first | refine Bk2 ?_ _ | refine Bk3 ?_ | refine Bk1 ?_ _)); exact BK350.out) hb); have n5_ := am (Bk4 (g := gb364) (o := .cells #[.int .i64 ((rd_T42 y359 x6_1).f0), .int .i64 ((rd_T42 y359 x6_1).f1)] 42 (0, 0)) (by (with_reducible repeat (first | refine Bk2 ?_ _ | refine Bk3 ?_ | refine Bk1 ?_ _)); refine blk_far ?_ NB364_365.out _; (with_reducible repeat (first | refine Bk2 ?_ _ | refine Bk3 ?_ | refine Bk1 ?_ _)); refine blk_far ?_ NB364_365.out _; (with_reducible repeat (first | refine Bk2 ?_ _ | refine Bk3 ?_ | refine Bk1 ?_ _)); refine blk_put (cs := #[.int .i64 ((rd_T42 y359 x6_1).f0), .int .i64 0]) ?_ 1 _ rfl; (with_reducible repeat (first | refine Bk2 ?_ _ | refine Bk3 ?_ | refine Bk1 ?_ _)); refine blk_put (cs := #[.int .i64 0, .int .i64 0]) ?_ 0 _ rfl; (with_reducible repeat (first | refine Bk2 ?_ _ | refine Bk3 ?_ | refine Bk1 ?_ _)); exact BK364.out) hb); have n6_ := am (Bk4 (g := gb365) (o := .cells #[.int .i64 ((rd_T42 y359 (ji28)).f0), .int .i64 ((rd_T42 y359 (ji28)).f1)] 42 (0, 0)) (by (with_reducible repeat (first | refine Bk2 ?_ _ | refine Bk3 ?_ | refine Bk1 ?_ _)); refine blk_put (cs := #[.int .i64 ((rd_T42 y359 (ji28)).f0), .int .i64 0]) ?_ 1 _ rfl; (with_reducible repeat (first | refine Bk2 ?_ _ | refine Bk3 ?_ | refine Bk1 ?_ _)); refine blk_put (cs := #[.int .i64 0, .int .i64 0]) ?_ 0 _ rfl; (with_reducible repeat (first | refine Bk2 ?_ _ | refine Bk3 ?_ | refine Bk1 ?_ _)); refine blk_far ?_ NB365_364.out _; (with_reducible repeat (first | refine Bk2 ?_ _ | refine Bk3 ?_ | refine Bk1 ?_ _)); refine blk_far ?_ NB365_364.out _; (with_reducible repeat (first | refine Bk2 ?_ _ | refine Bk3 ?_ | refine Bk1 ?_ _)); exact BK365.out) hb); have n7_ := am (Bb6 (by repeat (first | (with_reducible first | exact HB.out | apply Bb1 | apply Bb2 | apply Bb3 | refine Bb4 ?_ GE349.out | refine Bb4 ?_ GE350.out | refine Bb4 ?_ GE364.out | refine Bb4 ?_ GE365.out) | exact HB.out)) hb); clear HO353; clear HO356; clear HO361; clear BK349; clear BK350; clear BK364; clear BK365; clear HB; have HO353 := n0_; have HO356 := n1_; have HO361 := n2_; have BK349 := n3_; have BK350 := n4_; have BK364 := n5_; have BK365 := n6_; have HB := n7_; clear n0_ n1_ n2_ n3_ n4_ n5_ n6_ n7_; (try clear hb); (try clear hb2); (try clear hk); (try clear hi); have hnb117 := NB365_349.out; have hnc117 := NB349_365.out; have hnb118 := NB365_350.out; have hnc118 := NB350_365.out; have hcz119_0 : w116.cell? ⟨gb365, 0, none⟩ = some (.int .i64 ((rd_T42 y359 (ji28)).f0)) := (kc BK365.out 0).trans rfl; have hcz119_1 : w116.cell? ⟨gb365, 1, none⟩ = some (.int .i64 ((rd_T42 y359 (ji28)).f1)) := (kc BK365.out 1).trans rfl; have hfz119_0 := kf BK365.out 0; have hfz119_1 := kf BK365.out 1) | ((with_reducible refine gate_callee (f := 70) rfl ?_); refine goesL_ (some 90) rfl rfl Tryd.func70 (by kernel_rfl) rfl #[.slice (some ad348) l0.length c0, .agg #[.int .i64 ((rd_T42 y359 (ji28)).f0), .int .i64 ((rd_T42 y359 (ji28)).f1)]] rfl (by (try simp only [List.map_toArray, List.map_cons, List.map_nil]); first | done | (simp only [hji28]; rfl) | rfl | (simp only [List.length_drop, List.length_take]; rfl)) ?_; (with_reducible refine (spec_l02Index.calls k1 _ _ l0 ((rd_T42 y359 (ji28)).f0) ((rd_T42 y359 (ji28)).f1) t367 _ ?side1 ?side2 A59.out).mono ?_); (case side1 => repeat (first | exact (Kd.C_below HR0.out HB.out) | (with_reducible refine Kd.C_alloc ?_ _) | (with_reducible refine Kd.C_drewN ?_ _) | (with_reducible refine Kd.C_drew ?_))); (case side2 => exact HC0.out); rintro e w120 ⟨rfl, hb⟩; refine ⟨_, rfl, ?_⟩; have n0_ := am (Kd.R_below (zR HO353) hb); have n1_ := am (Kd.R_below (zR HO356) hb); have n2_ := am (Kd.R_below (zR HO361) hb); have n3_ := am (Bk4 (g := gb349) (o := .cells #[.int .i64 ((rd_T42 l0 0).f0), .int .i64 ((rd_T42 l0 0).f1)] 42 (0, 0)) (zK BK349) hb); have n4_ := am (Bk4 (g := gb350) (o := .cells #[.int .i64 (wrap64 (x351000_1 + ((rd_T42 y354 x6_1).f0))), .int .i64 (wrap64 (x351001_1 + ((rd_T42 y354 x6_1).f1)))] 42 (0, 0)) (zK BK350) hb); have n5_ := am (Bk4 (g := gb364) (o := .cells #[.int .i64 ((rd_T42 y359 x6_1).f0), .int .i64 ((rd_T42 y359 x6_1).f1)] 42 (0, 0)) (zK BK364) hb); have n6_ := am (Bk4 (g := gb365) (o := .cells #[.int .i64 ((rd_T42 y359 (ji28)).f0), .int .i64 ((rd_T42 y359 (ji28)).f1)] 42 (0, 0)) (zK BK365) hb); have n7_ := am (Bb6 (by repeat (first | (with_reducible first | exact HB.out | apply Bb1 | apply Bb2 | apply Bb3 | refine Bb4 ?_ GE349.out | refine Bb4 ?_ GE350.out | refine Bb4 ?_ GE364.out | refine Bb4 ?_ GE365.out) | exact HB.out)) hb); clear HO353; clear HO356; clear HO361; clear BK349; clear BK350; clear BK364; clear BK365; clear HB; have HO353 := n0_; have HO356 := n1_; have HO361 := n2_; have BK349 := n3_; have BK350 := n4_; have BK364 := n5_; have BK365 := n6_; have HB := n7_; clear n0_ n1_ n2_ n3_ n4_ n5_ n6_ n7_; (try clear hb); (try clear hb2); (try clear hk); (try clear hi)))
   go_roundg k1
   case measure => have := HK1.out; omega
   case rel => exact ⟨(y351), (x6_1), (wrap64 (x351000_1 + ((rd_T42 y354 x6_1).f0))), (wrap64 (x351001_1 + ((rd_T42 y354 x6_1).f1))), zS, H', ⟨by have := HK1.out; omega⟩, ⟨zR HO353⟩, ⟨zK BK349⟩, ⟨zK BK350⟩, ⟨by repeat (first | (with_reducible first | exact HB.out | apply Bb1 | apply Bb2 | apply Bb3 | refine Bb4 ?_ GE349.out | refine Bb4 ?_ GE350.out | refine Bb4 ?_ GE364.out | refine Bb4 ?_ GE365.out) | exact HB.out)⟩⟩

end Go.Proofs.YtcgnnfaemjjljaaDoor.Q
