/- Written by a program of this session (wip/tools/pp.py) out of the translation, with the kit's printer. -/
import Derived.Test.YtpinaeegopdknaaQ0
import Derived.Test.YtpinaeegopdknaaQ14
import Derived.Test.YtpinaeegopdknaaQGspecl01From
import Derived.Test.YtpinaeegopdknaaQGspecl01Next
import Derived.Test.YtpinaeegopdknaaQ23
namespace Go.Proofs.Ytpinaeegopdknaa.Q
open Go.RowKit Go.Proofs.YtpinaeegopdknaaW.PrintWords Go.Proofs.YtpinaeegopdknaaW.PrintLast Go.Proofs.YtpinaeegopdknaaW.PrintMore
attribute [local go_sem] max2_int min2_int max_two min_two max_three min_three max_four min_four
set_option linter.unusedVariables false
set_option linter.unusedSimpArgs false

/-! ### spec_DrawPatchOf: function 12 -/
def spec_DrawPatchOf.f (k : Nat) (l0 : List Int) : Option ((List (S43)) × Int × Int × Int × Int × Int) := (spec_l01From.f l0).bind fun bt449 => ((spec_DrawDoesTile.f k l0).bind fun bt453 => ((some (([1, 3, 5, 8, 0, 20, 21, 6] : List Int) : List Int)).bind fun y460 => ((spec_l01Next.f bt449.1 bt449.2.1 bt449.2.2 8).bind fun bt463 => (if 0 ≤ bt463.1 then (if bt463.1 < (y460.length : Int) then ((spec_l01Next.f bt449.1 bt463.2.1 bt463.2.2 8).bind fun bt467 => (if 0 ≤ bt467.1 then (if bt467.1 < (y460.length : Int) then (some (bt453.1, bt453.2.1, bt453.2.2.1, bt453.2.2.2, rd y460 bt463.1, rd y460 bt467.1)) else (none)) else (none))) else (none)) else (none)))))
theorem spec_DrawPatchOf.mono : ∀ a0 k, LeO (spec_DrawPatchOf.f k a0) (spec_DrawPatchOf.f (k + 1) a0) := by
 intro a0 k
 unfold spec_DrawPatchOf.f
 repeat' first
   | (with_reducible exact spec_DrawDoesTile.mono _ _)
   | (with_reducible exact LeO.refl _)
   | (with_reducible exact LeO.none _)
   | (with_reducible refine LeO.ite ?_ ?_)
   | (with_reducible refine LeO.bind ?_ (fun _ => ?_))
   | exact spec_DrawDoesTile.mono _ _
   | exact LeO.none _
   | refine LeO.ite ?_ ?_
   | refine LeO.bind ?_ (fun _ => ?_)
def spec_DrawPatchOf.T5 : Bool × List (List Nat × List Nat) := (true, [([], []), ([], []), ([], []), ([], []), ([], []), ([4], [4]), ([3, 5], [3, 5]), ([6], [6]), ([0, 5, 0], [0]), ([1, 8, 0, 1, 8], [1]), ([2, 9, 0, 1, 2, 8, 9], [2]), ([7, 10, 0, 1, 2, 3, 4, 5, 6, 7, 8, 9, 10], [7])])
def spec_DrawPatchOf.B5 : List Nat := [0, 0, 0, 0, 0, 16, 56, 120, 49, 307, 823, 2047]
theorem spec_DrawPatchOf.tab5 : rtab .any (opsOf Try.f12 5) = spec_DrawPatchOf.T5 := by kernel_rfl
theorem spec_DrawPatchOf.bits5 : waitsOk spec_DrawPatchOf.T5.2 spec_DrawPatchOf.B5 = true := by kernel_rfl
set_option maxHeartbeats 8000000 in
set_option maxRecDepth 100000 in
theorem spec_DrawPatchOf.calls (k : Nat) (A0 : Option Addr) (c0 : Nat) (l0 : List Int) (r1 : List (S43)) (r2 : Int) (r3 : Int) (r4 : Int) (r5 : Int) (r6 : Int) (w : World) (hr0 : Kd.C (Kd.int .u8) w A0 l0.length l0) (hc0 : l0.length ≤ c0) (h : spec_DrawPatchOf.f k l0 = some (r1, r2, r3, r4, r5, r6)) :
  Calls Try.prog 12 #[.slice A0 l0.length c0] w fun e w' => ∃ v0_ : Value, e = .returned (.tuple #[v0_, .agg #[.int .i64 r2, .int .i64 r3, .int .i64 r4], .int .i64 r5, .int .i64 r6]) ∧ Kd.R k43 43 w' w.heap.size (fun _ => True) v0_ r1 ∧ Below w.heap.size w w' := by
 have hu30 := Try.underlying30
 have HR0 := am hr0
 have HC0 := am hc0
 clear hr0 hc0
 have HB := am (Below.refl w.heap.size w)
 have H : ((spec_l01From.f l0).bind fun bt449 => ((spec_DrawDoesTile.f k l0).bind fun bt453 => ((some (([1, 3, 5, 8, 0, 20, 21, 6] : List Int) : List Int)).bind fun y460 => ((spec_l01Next.f bt449.1 bt449.2.1 bt449.2.2 8).bind fun bt463 => (if 0 ≤ bt463.1 then (if bt463.1 < (y460.length : Int) then ((spec_l01Next.f bt449.1 bt463.2.1 bt463.2.2 8).bind fun bt467 => (if 0 ≤ bt467.1 then (if bt467.1 < (y460.length : Int) then (some (bt453.1, bt453.2.1, bt453.2.2.1, bt453.2.2.2, rd y460 bt463.1, rd y460 bt467.1)) else (none)) else (none))) else (none)) else (none)))))) = some (r1, r2, r3, r4, r5, r6) := h
 clear h
 replace H := ob H
 obtain ⟨⟨t449, t450, t451⟩, A20, H⟩ := H
 replace H : ((spec_DrawDoesTile.f k l0).bind fun bt453 => ((some (([1, 3, 5, 8, 0, 20, 21, 6] : List Int) : List Int)).bind fun y460 => ((spec_l01Next.f t449 t450 t451 8).bind fun bt463 => (if 0 ≤ bt463.1 then (if bt463.1 < (y460.length : Int) then ((spec_l01Next.f t449 bt463.2.1 bt463.2.2 8).bind fun bt467 => (if 0 ≤ bt467.1 then (if bt467.1 < (y460.length : Int) then (some (bt453.1, bt453.2.1, bt453.2.2.1, bt453.2.2.2, rd y460 bt463.1, rd y460 bt467.1)) else (none)) else (none))) else (none)) else (none))))) = some (r1, r2, r3, r4, r5, r6) := H
 have A2 := am A20
 clear A20
 replace H := ob H
 obtain ⟨⟨t453, t456, t457, t458⟩, A30, H⟩ := H
 replace H : ((some (([1, 3, 5, 8, 0, 20, 21, 6] : List Int) : List Int)).bind fun y460 => ((spec_l01Next.f t449 t450 t451 8).bind fun bt463 => (if 0 ≤ bt463.1 then (if bt463.1 < (y460.length : Int) then ((spec_l01Next.f t449 bt463.2.1 bt463.2.2 8).bind fun bt467 => (if 0 ≤ bt467.1 then (if bt467.1 < (y460.length : Int) then (some (t453, t456, t457, t458, rd y460 bt463.1, rd y460 bt467.1)) else (none)) else (none))) else (none)) else (none)))) = some (r1, r2, r3, r4, r5, r6) := H
 have A3 := am A30
 clear A30
 obtain ⟨y460, hy460⟩ : ∃ y_ : List Int, y_ = (([1, 3, 5, 8, 0, 20, 21, 6] : List Int)) := ⟨_, rfl⟩
 replace H : ((spec_l01Next.f t449 t450 t451 8).bind fun bt463 => (if 0 ≤ bt463.1 then (if bt463.1 < (y460.length : Int) then ((spec_l01Next.f t449 bt463.2.1 bt463.2.2 8).bind fun bt467 => (if 0 ≤ bt467.1 then (if bt467.1 < (y460.length : Int) then (some (t453, t456, t457, t458, rd y460 bt463.1, rd y460 bt467.1)) else (none)) else (none))) else (none)) else (none))) = some (r1, r2, r3, r4, r5, r6) := by first | (rw [hy460]; with_reducible exact H) | (have H2_ := (Option.bind_some _ _).symm.trans H; rw [hy460]; with_reducible exact H2_) | (have H2_ := (Option.bind_some _ _).symm.trans H; with_reducible exact H2_) | with_reducible exact H | (rw [hy460]; exact H) | exact H
 have Ny460 := am hy460
 clear hy460
 replace H := ob H
 obtain ⟨⟨t463, t464, t465⟩, A40, H⟩ := H
 replace H : (if 0 ≤ t463 then (if t463 < (y460.length : Int) then ((spec_l01Next.f t449 t464 t465 8).bind fun bt467 => (if 0 ≤ bt467.1 then (if bt467.1 < (y460.length : Int) then (some (t453, t456, t457, t458, rd y460 t463, rd y460 bt467.1)) else (none)) else (none))) else (none)) else (none)) = some (r1, r2, r3, r4, r5, r6) := H
 have A4 := am A40
 clear A40
 by_cases c5 : 0 ≤ t463
 ·rw [if_pos c5] at H
  have c5b0 : decide (0 ≤ t463) = true := decide_eq_true c5
  clear c5
  by_cases c6 : t463 < (y460.length : Int)
  ·rw [if_pos c6] at H
   have c6b0 : decide (t463 < (y460.length : Int)) = true := decide_eq_true c6
   clear c6
   replace H := ob H
   obtain ⟨⟨t467, t468, t469⟩, A70, H⟩ := H
   replace H : (if 0 ≤ t467 then (if t467 < (y460.length : Int) then (some (t453, t456, t457, t458, rd y460 t463, rd y460 t467)) else (none)) else (none)) = some (r1, r2, r3, r4, r5, r6) := H
   have A7 := am A70
   clear A70
   by_cases c8 : 0 ≤ t467
   ·rw [if_pos c8] at H
    have c8b0 : decide (0 ≤ t467) = true := decide_eq_true c8
    clear c8
    by_cases c9 : t467 < (y460.length : Int)
    ·rw [if_pos c9] at H
     have c9b0 : decide (t467 < (y460.length : Int)) = true := decide_eq_true c9
     clear c9
     simp only [Option.some.injEq, Prod.mk.injEq] at H
     obtain ⟨rfl, rfl, rfl, rfl, rfl, rfl⟩ := H
     go_enter Try.func12, Try.ntmps12
     try go_wp2_with (first | ((with_reducible refine gate_dst (N := 3) rfl ?_); refine box_event ?hg (N := 3) ?hd (cs := #[.int .i64 0, .int .i64 0, .int .i64 0]) (t := 30) ?hr ?_; (case hd => rfl); (case hg => rfl); (case hr => first | (go_simp; done) | (go_simp; rfl)); intro gb448 hg w10 hbox hb; have n0_ := am (Bb6 (by repeat (first | (with_reducible first | exact HB.out | apply Bb1 | apply Bb2 | apply Bb3) | exact HB.out)) hb); have n1_ := am (hbox); have n2_ := am ((by rw [hg]; exact (Bb5 (by repeat (first | (with_reducible first | exact HB.out | apply Bb1 | apply Bb2 | apply Bb3) | exact HB.out))) : w.heap.size ≤ gb448)); have n3_ := n2_; clear HB; have HB := n0_; have BK448 := n1_; have GW448 := n2_; have GE448 := n3_; clear n0_ n1_ n2_ n3_; clear hb hbox hg) | ((with_reducible refine gate_callee (f := 26) rfl ?_); refine goesL_ (some 12) rfl rfl Try.func26 (by kernel_rfl) rfl #[.slice A0 l0.length c0] rfl (by (try simp only [List.map_toArray, List.map_cons, List.map_nil]); first | done | rfl | (simp only [List.length_drop, List.length_take]; rfl)) ?_; (with_reducible refine (spec_l01From.calls _ _ l0 t449 t450 t451 w _ ?side1 ?side2 ?side3 A2.out).mono ?_); (case side1 => repeat (first | (with_reducible first | exact HB.out | apply Bb1 | apply Bb2 | apply Bb3 | refine Bb4 ?_ GE448.out) | exact HB.out)); (case side2 => exact HR0.out); (case side3 => exact HC0.out); rintro e w11 ⟨g452, rfl, hi, hb, hb2⟩; refine ⟨_, rfl, ?_⟩; have n0_ := am (Bk4 (g := gb448) (o := .cells #[.int .i64 0, .int .i64 0, .int .i64 0] 30 (0, 0)) (by (with_reducible repeat (first | refine Bk2 ?_ _ | refine Bk3 ?_ | refine Bk1 ?_ _)); exact BK448.out) hb2); have n1_ := am (hb); have n2_ := am (hi); have n3_ := am (IsS65.ne_blk hi (Bk4 (g := gb448) (o := .cells #[.int .i64 0, .int .i64 0, .int .i64 0] 30 (0, 0)) (by (with_reducible repeat (first | refine Bk2 ?_ _ | refine Bk3 ?_ | refine Bk1 ?_ _)); exact BK448.out) hb2) (by decide)); have n4_ := am (Ne.symm (IsS65.ne_blk hi (Bk4 (g := gb448) (o := .cells #[.int .i64 0, .int .i64 0, .int .i64 0] 30 (0, 0)) (by (with_reducible repeat (first | refine Bk2 ?_ _ | refine Bk3 ?_ | refine Bk1 ?_ _)); exact BK448.out) hb2) (by decide))); clear BK448; clear HB; have BK448 := n0_; have HB := n1_; have HI452 := n2_; have NB452_448 := n3_; have NB448_452 := n4_; clear n0_ n1_ n2_ n3_ n4_; (try clear hb); (try clear hb2); (try clear hk); (try clear hi)) | ((with_reducible refine gate_callee (f := 27) rfl ?_); refine goesL_ (some 15) rfl rfl Try.func27 (by kernel_rfl) rfl #[.slice A0 l0.length c0] rfl (by (try simp only [List.map_toArray, List.map_cons, List.map_nil]); first | done | rfl | (simp only [List.length_drop, List.length_take]; rfl)) ?_; (with_reducible refine (spec_DrawDoesTile.calls k _ _ l0 t453 t456 t457 t458 _ ?side1 ?side2 A3.out).mono ?_); (case side1 => repeat (first | exact (Kd.C_below HR0.out HB.out) | (with_reducible refine Kd.C_alloc ?_ _) | (with_reducible refine Kd.C_drewN ?_ _) | (with_reducible refine Kd.C_drew ?_))); (case side2 => exact HC0.out); rintro e w12 ⟨v454, rfl, ho0, hb⟩; refine ⟨_, rfl, ?_⟩; have n0_ := am (Kd.R_lower ho0 (Bb5 (by repeat (first | (with_reducible first | exact HB.out | apply Bb1 | apply Bb2 | apply Bb3 | refine Bb4 ?_ (IsS65.ge HI452.out) | refine Bb4 ?_ GE448.out) | exact HB.out)))); have n1_ := am (Bk4 (g := gb448) (o := .cells #[.int .i64 0, .int .i64 0, .int .i64 0] 30 (0, 0)) (by (with_reducible repeat (first | refine Bk2 ?_ _ | refine Bk3 ?_ | refine Bk1 ?_ _)); exact BK448.out) hb); have n2_ := am (IsS65.below (by repeat (first | (with_reducible first | exact HI452.out | apply IsS65.alloc | apply IsS65.drewN | apply IsS65.drew | apply IsS65.set_1 | apply IsS65.set_2 | refine IsS65.far ?_ NB452_448.out _) | exact HI452.out)) hb); have n3_ := am (Bb6 (by repeat (first | (with_reducible first | exact HB.out | apply Bb1 | apply Bb2 | apply Bb3 | refine Bb4 ?_ (IsS65.ge HI452.out) | refine Bb4 ?_ GE448.out) | exact HB.out)) hb); clear BK448; clear HI452; clear HB; have HO455 := n0_; have BK448 := n1_; have HI452 := n2_; have HB := n3_; clear n0_ n1_ n2_ n3_; (try clear hb); (try clear hb2); (try clear hk); (try clear hi); (try clear ho0)) | ((with_reducible refine gate_dst (N := 8) rfl ?_); refine box_event ?hg (N := 8) ?hd (cs := #[.int .i64 0, .int .i64 0, .int .i64 0]) (t := 30) ?hr ?_; (case hd => rfl); (case hg => rfl); (case hr => first | (go_simp; done) | (go_simp; rfl)); intro gb459 hg w13 hbox hb; have n0_ := am (Kd.R_below (by (with_reducible repeat (first | apply Kd.R_alloc | apply Kd.R_drewN | apply Kd.R_drew)); exact HO455.out) hb); have n1_ := am (Bk4 (g := gb448) (o := .cells #[.int .i64 0, .int .i64 0, .int .i64 0] 30 (0, 0)) (by (with_reducible repeat (first | refine Bk2 ?_ _ | refine Bk3 ?_ | refine Bk1 ?_ _)); exact BK448.out) hb); have n2_ := am (IsS65.below (by repeat (first | (with_reducible first | exact HI452.out | apply IsS65.alloc | apply IsS65.drewN | apply IsS65.drew | apply IsS65.set_1 | apply IsS65.set_2 | refine IsS65.far ?_ NB452_448.out _) | exact HI452.out)) hb); have n3_ := am (Bb6 (by repeat (first | (with_reducible first | exact HB.out | apply Bb1 | apply Bb2 | apply Bb3 | refine Bb4 ?_ (IsS65.ge HI452.out) | refine Bb4 ?_ GE448.out) | exact HB.out)) hb); have n4_ := am (hbox); have n5_ := am ((by rw [hg]; exact (Bb5 (by repeat (first | (with_reducible first | exact HB.out | apply Bb1 | apply Bb2 | apply Bb3 | refine Bb4 ?_ (IsS65.ge HI452.out) | refine Bb4 ?_ GE448.out) | exact HB.out))) : w.heap.size ≤ gb459)); have n6_ := n5_; have n7_ := am ((by rw [hg]; exact nl (Bk5 (g := gb448) (o := .cells #[.int .i64 0, .int .i64 0, .int .i64 0] 30 (0, 0)) (by (with_reducible repeat (first | refine Bk2 ?_ _ | refine Bk3 ?_ | refine Bk1 ?_ _)); exact BK448.out)) : gb448 ≠ gb459)); have n8_ := am ((by rw [hg]; exact ng (Bk5 (g := gb448) (o := .cells #[.int .i64 0, .int .i64 0, .int .i64 0] 30 (0, 0)) (by (with_reducible repeat (first | refine Bk2 ?_ _ | refine Bk3 ?_ | refine Bk1 ?_ _)); exact BK448.out)) : gb459 ≠ gb448)); have n9_ := am ((by rw [hg]; exact nl (IsS65.lt (show IsS65 w _ g452 t449 t450 t451 from by repeat (first | (with_reducible first | exact HI452.out | apply IsS65.alloc | apply IsS65.drewN | apply IsS65.drew | apply IsS65.set_1 | apply IsS65.set_2 | refine IsS65.far ?_ NB452_448.out _) | exact HI452.out))) : g452 ≠ gb459)); have n10_ := am ((by rw [hg]; exact ng (IsS65.lt (show IsS65 w _ g452 t449 t450 t451 from by repeat (first | (with_reducible first | exact HI452.out | apply IsS65.alloc | apply IsS65.drewN | apply IsS65.drew | apply IsS65.set_1 | apply IsS65.set_2 | refine IsS65.far ?_ NB452_448.out _) | exact HI452.out))) : gb459 ≠ g452)); clear HO455; clear BK448; clear HI452; clear HB; have HO455 := n0_; have BK448 := n1_; have HI452 := n2_; have HB := n3_; have BK459 := n4_; have GW459 := n5_; have GE459 := n6_; have NB448_459 := n7_; have NB459_448 := n8_; have NB452_459 := n9_; have NB459_452 := n10_; clear n0_ n1_ n2_ n3_ n4_ n5_ n6_ n7_ n8_ n9_ n10_; clear hb hbox hg; have hnb14 := NB459_448.out; have hnc14 := NB448_459.out; have hnb15 := NB459_452.out; have hnc15 := NB452_459.out; have hcz16_0 : w13.cell? ⟨gb459, 0, none⟩ = some (.int .i64 0) := (kc BK459.out 0).trans rfl; have hcz16_1 : w13.cell? ⟨gb459, 1, none⟩ = some (.int .i64 0) := (kc BK459.out 1).trans rfl; have hcz16_2 : w13.cell? ⟨gb459, 2, none⟩ = some (.int .i64 0) := (kc BK459.out 2).trans rfl; have hfz16_0 := kf BK459.out 0; have hfz16_1 := kf BK459.out 1; have hfz16_2 := kf BK459.out 2) | ((with_reducible refine gate_dst (N := 18) rfl ?_); refine Kd.R_lit (Kd.int .i64) _ 2 ?hg (N := 18) ?hd (xs := ([1, 3, 5, 8, 0, 20, 21, 6] : List Int)) (inner := [.int .i64 1, .int .i64 3, .int .i64 5, .int .i64 8, .int .i64 0, .int .i64 20, .int .i64 21, .int .i64 6]) (ok := fun _ => True) (okp := fun _ => True) ?hr ?hp (fun _ hk => hk) trivial (Below.refl _ _) (Nat.le_refl _) (by simp) ?_; (case hd => rfl); (case hg => rfl); (case hr => first | (go_simp; done) | (go_simp; rfl)); (case hp => exact (Reps.one (show Kd.M (Kd.int .i64) _ _ _ 1 [.int .i64 1] from rfl) (Reps.one (show Kd.M (Kd.int .i64) _ _ _ 3 [.int .i64 3] from rfl) (Reps.one (show Kd.M (Kd.int .i64) _ _ _ 5 [.int .i64 5] from rfl) (Reps.one (show Kd.M (Kd.int .i64) _ _ _ 8 [.int .i64 8] from rfl) (Reps.one (show Kd.M (Kd.int .i64) _ _ _ 0 [.int .i64 0] from rfl) (Reps.one (show Kd.M (Kd.int .i64) _ _ _ 20 [.int .i64 20] from rfl) (Reps.one (show Kd.M (Kd.int .i64) _ _ _ 21 [.int .i64 21] from rfl) (Reps.one (show Kd.M (Kd.int .i64) _ _ _ 6 [.int .i64 6] from rfl) (Reps.none _ _)))))))))); intro v461 w17 ho18 hb hg_ hnew_; clear hg_ hnew_; (first | rw [← Ny460.out] at ho18 | (simp only [Int.reduceToNat] at ho18; rw [← Ny460.out] at ho18)); have n0_ := am (Kd.R_below (by (with_reducible repeat (first | apply Kd.R_alloc | apply Kd.R_drewN | apply Kd.R_drew)); exact (Kd.R_mono (Kd.R_far (p := ⟨gb459, 2, none⟩) (Kd.R_far (p := ⟨gb459, 1, none⟩) (Kd.R_far (p := ⟨gb459, 0, none⟩) (Kd.R_types HO455.out BK459.out (by decide)) (fun _ hk => hk.2) (.int .i64 t456)) (fun _ hk => hk.2) (.int .i64 t457)) (fun _ hk => hk.2) (.int .i64 t458)) (fun _ h_ => h_.1))) hb); have n1_ := am (Kd.R_lower ho18 (Bb5 (by repeat (first | (with_reducible first | exact HB.out | apply Bb1 | apply Bb2 | apply Bb3 | refine Bb4 ?_ (IsS65.ge HI452.out) | refine Bb4 ?_ GE448.out | refine Bb4 ?_ GE459.out) | exact HB.out)))); have n2_ := am (Bk4 (g := gb448) (o := .cells #[.int .i64 0, .int .i64 0, .int .i64 0] 30 (0, 0)) (by (with_reducible repeat (first | refine Bk2 ?_ _ | refine Bk3 ?_ | refine Bk1 ?_ _)); refine blk_far ?_ NB448_459.out _; (with_reducible repeat (first | refine Bk2 ?_ _ | refine Bk3 ?_ | refine Bk1 ?_ _)); refine blk_far ?_ NB448_459.out _; (with_reducible repeat (first | refine Bk2 ?_ _ | refine Bk3 ?_ | refine Bk1 ?_ _)); refine blk_far ?_ NB448_459.out _; (with_reducible repeat (first | refine Bk2 ?_ _ | refine Bk3 ?_ | refine Bk1 ?_ _)); exact BK448.out) hb); have n3_ := am (IsS65.below (show IsS65 w (((w13.setCell ⟨gb459, 0, none⟩ (.int .i64 t456)).setCell ⟨gb459, 1, none⟩ (.int .i64 t457)).setCell ⟨gb459, 2, none⟩ (.int .i64 t458)) g452 t449 t450 t451 from by repeat (first | (with_reducible first | exact HI452.out | apply IsS65.alloc | apply IsS65.drewN | apply IsS65.drew | apply IsS65.set_1 | apply IsS65.set_2 | refine IsS65.far ?_ NB452_448.out _ | refine IsS65.far ?_ NB452_459.out _) | exact HI452.out)) hb); have n4_ := am (Bk4 (g := gb459) (o := .cells #[.int .i64 t456, .int .i64 t457, .int .i64 t458] 30 (0, 0)) (by (with_reducible repeat (first | refine Bk2 ?_ _ | refine Bk3 ?_ | refine Bk1 ?_ _)); refine blk_put (cs := #[.int .i64 t456, .int .i64 t457, .int .i64 0]) ?_ 2 _ rfl; (with_reducible repeat (first | refine Bk2 ?_ _ | refine Bk3 ?_ | refine Bk1 ?_ _)); refine blk_put (cs := #[.int .i64 t456, .int .i64 0, .int .i64 0]) ?_ 1 _ rfl; (with_reducible repeat (first | refine Bk2 ?_ _ | refine Bk3 ?_ | refine Bk1 ?_ _)); refine blk_put (cs := #[.int .i64 0, .int .i64 0, .int .i64 0]) ?_ 0 _ rfl; (with_reducible repeat (first | refine Bk2 ?_ _ | refine Bk3 ?_ | refine Bk1 ?_ _)); exact BK459.out) hb); have n5_ := am (Bb6 (by repeat (first | (with_reducible first | exact HB.out | apply Bb1 | apply Bb2 | apply Bb3 | refine Bb4 ?_ (IsS65.ge HI452.out) | refine Bb4 ?_ GE448.out | refine Bb4 ?_ GE459.out) | exact HB.out)) hb); clear HO455; clear BK448; clear HI452; clear BK459; clear HB; have HO455 := n0_; have HO462 := n1_; have BK448 := n2_; have HI452 := n3_; have BK459 := n4_; have HB := n5_; clear n0_ n1_ n2_ n3_ n4_ n5_; clear hb ho18) | ((with_reducible refine gate_callee (f := 28) rfl ?_); refine goesL_ (some 21) rfl rfl Try.func28 (by kernel_rfl) rfl #[.pointer (some ⟨g452, 0, none⟩), .int .i64 8] rfl (by (try simp only [List.map_toArray, List.map_cons, List.map_nil]); first | done | rfl | (simp only [List.length_drop, List.length_take]; rfl)) ?_; (with_reducible refine (spec_l01Next.calls g452 t449 t450 t451 8 t463 t464 t465 w _ ?side1 ?side2 A4.out).mono ?_); (case side1 => repeat (first | (with_reducible first | exact HI452.out | apply IsS65.alloc | apply IsS65.drewN | apply IsS65.drew | apply IsS65.set_1 | apply IsS65.set_2 | refine IsS65.far ?_ NB452_448.out _ | refine IsS65.far ?_ NB452_459.out _) | exact HI452.out)); (case side2 => repeat (first | (with_reducible first | exact HB.out | apply Bb1 | apply Bb2 | apply Bb3 | refine Bb4 ?_ (IsS65.ge HI452.out) | refine Bb4 ?_ GE448.out | refine Bb4 ?_ GE459.out) | exact HB.out)); rintro e w19 ⟨rfl, hi, hb, hk⟩; refine ⟨_, rfl, ?_⟩; have n0_ := am (KeepBut.blk hk (g' := gb448) (o := .cells #[.int .i64 0, .int .i64 0, .int .i64 0] 30 (0, 0)) (by (with_reducible repeat (first | refine Bk2 ?_ _ | refine Bk3 ?_ | refine Bk1 ?_ _)); exact BK448.out) NB448_452.out (by simp)); have n1_ := am (Kd.R_mono (Kd.R_keep (IsS65.apart (show IsS65 w _ g452 t449 t450 t451 from by repeat (first | (with_reducible first | exact HI452.out | apply IsS65.alloc | apply IsS65.drewN | apply IsS65.drew | apply IsS65.set_1 | apply IsS65.set_2 | refine IsS65.far ?_ NB452_448.out _ | refine IsS65.far ?_ NB452_459.out _) | exact HI452.out)) (by (with_reducible repeat (first | apply Kd.R_alloc | apply Kd.R_drewN | apply Kd.R_drew)); exact HO455.out) (by decide)) hk (fun _ h => h.2)) (fun _ h => h.1)); have n2_ := am (KeepBut.blk hk (g' := gb459) (o := .cells #[.int .i64 t456, .int .i64 t457, .int .i64 t458] 30 (0, 0)) (by (with_reducible repeat (first | refine Bk2 ?_ _ | refine Bk3 ?_ | refine Bk1 ?_ _)); exact BK459.out) NB459_452.out (by simp)); have n3_ := am (Kd.R_mono (Kd.R_keep (IsS65.apart (show IsS65 w _ g452 t449 t450 t451 from by repeat (first | (with_reducible first | exact HI452.out | apply IsS65.alloc | apply IsS65.drewN | apply IsS65.drew | apply IsS65.set_1 | apply IsS65.set_2 | refine IsS65.far ?_ NB452_448.out _ | refine IsS65.far ?_ NB452_459.out _) | exact HI452.out)) (by (with_reducible repeat (first | apply Kd.R_alloc | apply Kd.R_drewN | apply Kd.R_drew)); exact HO462.out) (by decide)) hk (fun _ h => h.2)) (fun _ h => h.1)); have n4_ := am (hb); have n5_ := am (hi); clear BK448; clear HO455; clear BK459; clear HO462; clear HB; clear HI452; have BK448 := n0_; have HO455 := n1_; have BK459 := n2_; have HO462 := n3_; have HB := n4_; have HI452 := n5_; clear n0_ n1_ n2_ n3_ n4_ n5_; (try clear hb); (try clear hb2); (try clear hk); (try clear hi); obtain ⟨Ao20, co20, eo20⟩ := Kd.R_slice HO462.out; subst eo20; have p466 : 0 ≤ (t463 : Int) := of_decide_eq_true (by first | (with_reducible assumption) | assumption); have q466 : t463 < (y460.length : Int) := of_decide_eq_true (by first | (with_reducible assumption) | assumption); obtain ⟨ad466, e466, hx466_0⟩ := Kd.at_int (Kd.R_reads' HO462.out).2.2 t463 p466 q466; cases e466; replace p466 := eq_true p466; replace q466 := eq_true q466))
     have n0_ := am (Kd.R_drew HO455.out)
     have n1_ := am (Kd.R_drew HO462.out)
     have n2_ := am (Bk3 BK448.out)
     have n3_ := am (Bk3 BK459.out)
     have n4_ := am (IsS65.drew HI452.out)
     have n5_ := am (Bb3 HB.out)
     clear HO455
     clear HO462
     clear BK448
     clear BK459
     clear HI452
     clear HB
     have HO455 := n0_
     have HO462 := n1_
     have BK448 := n2_
     have BK459 := n3_
     have HI452 := n4_
     have HB := n5_
     clear n0_ n1_ n2_ n3_ n4_ n5_
     have p470 : 0 ≤ (t467 : Int) := of_decide_eq_true (by first | (with_reducible assumption) | assumption)
     have q470 : t467 < (y460.length : Int) := of_decide_eq_true (by first | (with_reducible assumption) | assumption)
     obtain ⟨ad470, e470, hx470_0⟩ := Kd.at_int (Kd.R_reads' HO462.out).2.2 t467 p470 q470
     obtain rfl : ad466 = ad470 := (by injection e470)
     replace p470 := eq_true p470
     replace q470 := eq_true q470
     refine start_ (n := 12) (S := fun w' => w'.cell? ⟨gb459, 0, none⟩ = some (.int .i64 t456) ∧ w'.cell? ⟨gb459, 1, none⟩ = some (.int .i64 t457) ∧ w'.cell? ⟨gb459, 2, none⟩ = some (.int .i64 t458) ∧ w'.cell? (ad466.add (t467).toNat) = some (.int .i64 (rd y460 t467))) (ds := []) #[false, false, false, false, false, false, false, false, false, false, false, false] (by kernel_rfl) rfl rfl ⟨(kc BK459.out 0).trans rfl, (kc BK459.out 1).trans rfl, (kc BK459.out 2).trans rfl, hx470_0⟩ (fun hHeld => ?_); refine with_tabW spec_DrawPatchOf.tab5 spec_DrawPatchOf.bits5 (fun HT_ HW_ => ?_)
     generalize w19.drew = w21 at HO455 HO462 BK448 BK459 HI452 HB hx470_0 hHeld ⊢
     refine pure_ (i := 0) (N := some 24) (v := ?_) (a' := ?_) #[true, false, false, false, false, false, false, false, false, false, false, false] rfl rfl (any_of HT_.out (by kernel_rfl)) (fun _ _ _ h => h) (Or.inl ⟨by rfl, ?_⟩) ?_ ?_
     rotate_left
     ·intro w'
      go_simp
      with_reducible rfl
     rotate_left
     ·simp only [Act.put, sa, i64_w, i32_w]
      rfl
     refine pure_ (i := 2) (N := some 26) (v := ?_) (a' := ?_) #[true, false, true, false, false, false, false, false, false, false, false, false] rfl rfl (any_of HT_.out (by kernel_rfl)) (fun _ _ _ h => h) (Or.inl ⟨by rfl, ?_⟩) ?_ ?_
     rotate_left
     ·intro w'
      go_simp
      with_reducible rfl
     rotate_left
     ·simp only [Act.put, sa, i64_w, i32_w]
      rfl
     refine pure_ (i := 3) (N := some 27) (v := ?_) (a' := ?_) #[true, false, true, true, false, false, false, false, false, false, false, false] rfl rfl (any_of HT_.out (by kernel_rfl)) (fun _ _ _ h => h) (Or.inl ⟨by rfl, ?_⟩) ?_ ?_
     rotate_left
     ·intro w'
      go_simp
      with_reducible rfl
     rotate_left
     ·simp only [Act.put, sa, i64_w, i32_w]
      rfl
     refine pure_ (i := 4) (N := some 28) (v := ?_) (a' := ?_) #[true, false, true, true, true, false, false, false, false, false, false, false] rfl rfl (any_of HT_.out (by kernel_rfl)) (fun _ _ _ h => h) (Or.inl ⟨by rfl, ?_⟩) ?_ ?_
     rotate_left
     ·intro w'
      go_simp
      with_reducible rfl
     rotate_left
     ·simp only [Act.put, sa, i64_w, i32_w]
      rfl
     refine take_ (i := 1) (N := some 25) (v := ?_) (a' := ?_) #[true, true, true, true, true, false, false, false, false, false, false, false] rfl rfl (take_ofW HT_.out HW_.out (by kernel_rfl)) (fun _ _ _ h => h) (Or.inl ⟨by rfl, ?_⟩) hHeld ?_ ?_
     rotate_left
     ·rintro w' ⟨s0, s1, s2, s3⟩
      go_simp
      with_reducible rfl
     rotate_left
     ·simp only [Act.put, sa, i64_w, i32_w]
      rfl
     refine one_ (i := 5) (N := some 29) #[true, true, true, true, true, true, false, false, false, false, false, false] rfl rfl (one_of HT_.out (by kernel_rfl)) (by decide) (fun K hK => ?_)
     refine goes_ Try.func28 (by kernel_rfl) rfl #[.pointer (some ⟨g452, 0, none⟩), .int .i64 8] (by rfl) rfl rfl (by (try simp only [List.map_toArray, List.map_cons, List.map_nil]); first | done | rfl | (simp only [List.length_drop, List.length_take]; rfl)) ?_
     with_reducible refine (spec_l01Next.calls g452 t449 t464 t465 8 t467 t468 t469 w _ ?side1 ?side2 A7.out).mono ?_
     (case side1 => repeat (first | (with_reducible first | exact HI452.out | apply IsS65.alloc | apply IsS65.drewN | apply IsS65.drew | apply IsS65.set_1 | apply IsS65.set_2 | refine IsS65.far ?_ NB452_448.out _ | refine IsS65.far ?_ NB452_459.out _) | exact HI452.out))
     (case side2 => repeat (first | (with_reducible first | exact HB.out | apply Bb1 | apply Bb2 | apply Bb3 | refine Bb4 ?_ (IsS65.ge HI452.out) | refine Bb4 ?_ GE448.out | refine Bb4 ?_ GE459.out) | exact HB.out))
     rintro e w22 ⟨rfl, hi, hb, hk⟩
     have HS3_ := keep_cell hk (hHeld.2.2.2) (by first | (rw [add_block]; exact Kd.own_blk (IsS65.own_ne HI452.out HO462.out (by decide))) | (show (Addr.add _ _).block ≠ _; rw [add_block]; exact Kd.own_blk (IsS65.own_ne HI452.out HO462.out (by decide))) | exact Kd.own_blk (IsS65.own_ne HI452.out HO462.out (by decide)))
     refine ⟨_, rfl, ?_⟩
     have n0_ := am (KeepBut.blk hk (g' := gb448) (o := .cells #[.int .i64 0, .int .i64 0, .int .i64 0] 30 (0, 0)) (by (with_reducible repeat (first | refine Bk2 ?_ _ | refine Bk3 ?_ | refine Bk1 ?_ _)); exact BK448.out) NB448_452.out (by simp))
     have n1_ := am (Kd.R_mono (Kd.R_keep (IsS65.apart (show IsS65 w _ g452 t449 t464 t465 from by repeat (first | (with_reducible first | exact HI452.out | apply IsS65.alloc | apply IsS65.drewN | apply IsS65.drew | apply IsS65.set_1 | apply IsS65.set_2 | refine IsS65.far ?_ NB452_448.out _ | refine IsS65.far ?_ NB452_459.out _) | exact HI452.out)) (by (with_reducible repeat (first | apply Kd.R_alloc | apply Kd.R_drewN | apply Kd.R_drew)); exact HO455.out) (by decide)) hk (fun _ h => h.2)) (fun _ h => h.1))
     have n2_ := am (KeepBut.blk hk (g' := gb459) (o := .cells #[.int .i64 t456, .int .i64 t457, .int .i64 t458] 30 (0, 0)) (by (with_reducible repeat (first | refine Bk2 ?_ _ | refine Bk3 ?_ | refine Bk1 ?_ _)); exact BK459.out) NB459_452.out (by simp))
     have n3_ := am (Kd.R_mono (Kd.R_keep (IsS65.apart (show IsS65 w _ g452 t449 t464 t465 from by repeat (first | (with_reducible first | exact HI452.out | apply IsS65.alloc | apply IsS65.drewN | apply IsS65.drew | apply IsS65.set_1 | apply IsS65.set_2 | refine IsS65.far ?_ NB452_448.out _ | refine IsS65.far ?_ NB452_459.out _) | exact HI452.out)) (by (with_reducible repeat (first | apply Kd.R_alloc | apply Kd.R_drewN | apply Kd.R_drew)); exact HO462.out) (by decide)) hk (fun _ h => h.2)) (fun _ h => h.1))
     have n4_ := am (hb)
     have n5_ := am (hi)
     clear BK448
     clear HO455
     clear BK459
     clear HO462
     clear HB
     clear HI452
     have BK448 := n0_
     have HO455 := n1_
     have BK459 := n2_
     have HO462 := n3_
     have HB := n4_
     have HI452 := n5_
     clear n0_ n1_ n2_ n3_ n4_ n5_
     (try clear hb)
     (try clear hb2)
     (try clear hk)
     (try clear hi)
     refine hK.out _ _ ⟨(kc BK459.out 0).trans rfl, (kc BK459.out 1).trans rfl, (kc BK459.out 2).trans rfl, HS3_⟩ (fun hHeld => ?_)
     clear hK K
     refine norm_ (a' := ?_) ?_ ?_
     rotate_left
     ·show Act.put _ (some 29) _ = _
      simp only [Act.put, sa, i64_w, i32_w]
      rfl
     refine pure_ (i := 6) (N := some 30) (v := ?_) (a' := ?_) #[true, true, true, true, true, true, true, false, false, false, false, false] rfl rfl (any_of HT_.out (by kernel_rfl)) (fun _ _ _ h => h) (Or.inl ⟨by rfl, ?_⟩) ?_ ?_
     rotate_left
     ·intro w'
      go_simp
      with_reducible rfl
     rotate_left
     ·simp only [Act.put, sa, i64_w, i32_w]
      rfl
     refine pure_ (i := 8) (N := some 2) (v := ?_) (a' := ?_) #[true, true, true, true, true, true, true, false, true, false, false, false] rfl rfl (any_of HT_.out (by kernel_rfl)) (fun _ _ _ h => h) (Or.inl ⟨by rfl, ?_⟩) ?_ ?_
     rotate_left
     ·intro w'
      go_simp
      with_reducible rfl
     rotate_left
     ·simp only [Act.put, sa, i64_w, i32_w]
      rfl
     refine take_ (i := 7) (N := some 31) (v := ?_) (a' := ?_) #[true, true, true, true, true, true, true, true, true, false, false, false] rfl rfl (take_ofW HT_.out HW_.out (by kernel_rfl)) (fun _ _ _ h => h) (Or.inl ⟨by rfl, ?_⟩) hHeld ?_ ?_
     rotate_left
     ·rintro w' ⟨s0, s1, s2, s3⟩
      go_simp
      with_reducible rfl
     rotate_left
     ·simp only [Act.put, sa, i64_w, i32_w]
      rfl
     refine one_ (i := 9) (N := none) #[true, true, true, true, true, true, true, true, true, true, false, false] rfl rfl (one_of HT_.out (by kernel_rfl)) (by decide) (fun K hK => ?_)
     have hs23 : w22.cell? ⟨gb448, 0, none⟩ = some (.int .i64 0) := (kc BK448.out 0).trans rfl
     have hfs23 := kf BK448.out 0
     have hns23_1 := NB459_448.out
     have hms23_1 := NB448_459.out
     have hs24 : w22.cell? ⟨gb448, 1, none⟩ = some (.int .i64 0) := (kc BK448.out 1).trans rfl
     have hfs24 := kf BK448.out 1
     have hns24_1 := NB459_448.out
     have hms24_1 := NB448_459.out
     have hs25 : w22.cell? ⟨gb448, 2, none⟩ = some (.int .i64 0) := (kc BK448.out 2).trans rfl
     have hfs25 := kf BK448.out 2
     have hns25_1 := NB459_448.out
     have hms25_1 := NB448_459.out
     refine skip_ (w1 := ?_) (by rfl) rfl ?_ ?_
     rotate_left
     ·go_simp
      rfl
     refine hK.out _ _ ⟨((cell_far (p := ⟨gb448, _, none⟩) NB459_448.out _).trans (((cell_far (p := ⟨gb448, _, none⟩) NB459_448.out _).trans (((cell_far (p := ⟨gb448, _, none⟩) NB459_448.out _).trans (hHeld.1)))))), ((cell_far (p := ⟨gb448, _, none⟩) NB459_448.out _).trans (((cell_far (p := ⟨gb448, _, none⟩) NB459_448.out _).trans (((cell_far (p := ⟨gb448, _, none⟩) NB459_448.out _).trans (hHeld.2.1)))))), ((cell_far (p := ⟨gb448, _, none⟩) NB459_448.out _).trans (((cell_far (p := ⟨gb448, _, none⟩) NB459_448.out _).trans (((cell_far (p := ⟨gb448, _, none⟩) NB459_448.out _).trans (hHeld.2.2.1)))))), ((cell_far (p := ⟨gb448, _, none⟩) (by first | exact Kd.own_blk (Kd.R_ne HO462.out BK448.out (by decide)) | (rw [add_block]; exact Kd.own_blk (Kd.R_ne HO462.out BK448.out (by decide))) | (show (Addr.add _ _).block ≠ _; rw [add_block]; exact Kd.own_blk (Kd.R_ne HO462.out BK448.out (by decide))) | (dsimp only; exact Kd.own_blk (Kd.R_ne HO462.out BK448.out (by decide)))) _).trans (((cell_far (p := ⟨gb448, _, none⟩) (by first | exact Kd.own_blk (Kd.R_ne HO462.out BK448.out (by decide)) | (rw [add_block]; exact Kd.own_blk (Kd.R_ne HO462.out BK448.out (by decide))) | (show (Addr.add _ _).block ≠ _; rw [add_block]; exact Kd.own_blk (Kd.R_ne HO462.out BK448.out (by decide))) | (dsimp only; exact Kd.own_blk (Kd.R_ne HO462.out BK448.out (by decide)))) _).trans (((cell_far (p := ⟨gb448, _, none⟩) (by first | exact Kd.own_blk (Kd.R_ne HO462.out BK448.out (by decide)) | (rw [add_block]; exact Kd.own_blk (Kd.R_ne HO462.out BK448.out (by decide))) | (show (Addr.add _ _).block ≠ _; rw [add_block]; exact Kd.own_blk (Kd.R_ne HO462.out BK448.out (by decide))) | (dsimp only; exact Kd.own_blk (Kd.R_ne HO462.out BK448.out (by decide)))) _).trans (hHeld.2.2.2))))))⟩ (fun hHeld => ?_)
     clear hK K
     refine pure_ (i := 10) (N := some 4) (v := ?_) (a' := ?_) #[true, true, true, true, true, true, true, true, true, true, true, false] rfl rfl (any_of HT_.out (by kernel_rfl)) (fun _ _ _ h => h) (Or.inl ⟨by rfl, ?_⟩) ?_ ?_
     rotate_left
     ·intro w'
      go_simp
      with_reducible rfl
     rotate_left
     ·simp only [Act.put, sa, i64_w, i32_w]
      rfl
     refine pure_ (i := 11) (N := some 5) (v := ?_) (a' := ?_) #[true, true, true, true, true, true, true, true, true, true, true, true] rfl rfl (any_of HT_.out (by kernel_rfl)) (fun _ _ _ h => h) (Or.inl ⟨by rfl, ?_⟩) ?_ ?_
     rotate_left
     ·intro w'
      go_simp
      with_reducible rfl
     rotate_left
     ·simp only [Act.put, sa, i64_w, i32_w]
      rfl
     refine done_ (done_of HT_.out (by kernel_rfl)) ?_
     try go_wp2
     refine bodyPost_ret (results_list (rs := [.tmp 2, .cell 3 30, .tmp 4, .tmp 5]) rfl (by simp) (.tmp (.cell gb448 30 #[.int .i64 t456, .int .i64 t457, .int .i64 t458] (0, 0) _ rfl (by (with_reducible repeat (first | refine Bk2 ?_ _ | refine Bk3 ?_ | refine Bk1 ?_ _)); refine blk_put (cs := #[.int .i64 t456, .int .i64 t457, .int .i64 0]) ?_ 2 _ rfl; (with_reducible repeat (first | refine Bk2 ?_ _ | refine Bk3 ?_ | refine Bk1 ?_ _)); refine blk_put (cs := #[.int .i64 t456, .int .i64 0, .int .i64 0]) ?_ 1 _ rfl; (with_reducible repeat (first | refine Bk2 ?_ _ | refine Bk3 ?_ | refine Bk1 ?_ _)); refine blk_put (cs := #[.int .i64 0, .int .i64 0, .int .i64 0]) ?_ 0 _ rfl; (with_reducible repeat (first | refine Bk2 ?_ _ | refine Bk3 ?_ | refine Bk1 ?_ _)); exact BK448.out) Try.underlying30 rfl (by kernel_rfl) (.tmp (.tmp .nil))))) rfl ?_
     exact ⟨_, by first | rfl | (simp [errW_none, errW_some] <;> rfl) | (simp [*, errW_none, errW_some] <;> rfl), by (with_reducible repeat (first | apply Kd.R_alloc | apply Kd.R_drewN | apply Kd.R_drew)); exact Kd.R_mono (Kd.R_far (p := ⟨gb448, 2, none⟩) (Kd.R_far (p := ⟨gb448, 1, none⟩) (Kd.R_far (p := ⟨gb448, 0, none⟩) (Kd.R_types HO455.out BK448.out (by decide)) (fun _ hk => hk.2) (.int .i64 t456)) (fun _ hk => hk.2) (.int .i64 t457)) (fun _ hk => hk.2) (.int .i64 t458)) (fun _ hk => trivial), by repeat (first | (with_reducible first | exact HB.out | apply Bb1 | apply Bb2 | apply Bb3 | refine Bb4 ?_ (IsS65.ge HI452.out) | refine Bb4 ?_ GE448.out | refine Bb4 ?_ GE459.out) | exact HB.out)⟩
    ·rw [if_neg c9] at H
     exact absurd H (by simp)
   ·rw [if_neg c8] at H
    exact absurd H (by simp)
  ·rw [if_neg c6] at H
   exact absurd H (by simp)
 ·rw [if_neg c5] at H
  exact absurd H (by simp)

end Go.Proofs.Ytpinaeegopdknaa.Q
