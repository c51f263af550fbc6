/- Written by a program of this session (wip/tools/pp.py) out of the translation, with the kit's printer. -/
import Derived.Test.YtbbhohaenijaoaaGreatQ0
import Derived.Test.YtbbhohaenijaoaaGreatQ2
import Derived.Test.YtbbhohaenijaoaaGreatQ8
import Derived.Test.YtbbhohaenijaoaaGreatQ9
import Derived.Test.YtbbhohaenijaoaaGreatQ16
import Derived.Test.YtbbhohaenijaoaaGreatQGlawseqPiece
import Derived.Test.YtbbhohaenijaoaaGreatQ17
namespace Go.Proofs.YtbbhohaenijaoaaGreat.Q
open Go.RowKit Go.Proofs.YtbbhohaenijaoaaGreatW.PrintWords Go.Proofs.YtbbhohaenijaoaaGreatW.PrintLast Go.Proofs.YtbbhohaenijaoaaGreatW.PrintMore
attribute [local go_sem] max2_int min2_int max_two min_two max_three min_three max_four min_four
set_option linter.unusedVariables false
set_option linter.unusedSimpArgs false

/-! ### laws_FnExactIsCorona: function 3 -/
def laws_FnExactIsCorona.f (k : Nat) (l0_0 : List (S55)) (a0_1 : Int) (a0_2 : Bool) (l1 : List (List (S55))) : Option (Bool) := (laws_szPiece.f l0_0 a0_1 a0_2 1048576).bind fun t450 => (if t450 < 0 then (some true) else ((laws_szCellSS.f k l1 t450).bind fun t451 => (if t451 < 0 then (some true) else ((laws_toPiece.f k l0_0 a0_1 a0_2).bind fun bt452 => ((laws_toCellSS.f k l1).bind fun t457 => ((spec_IsCorona.f k bt452.1 bt452.2.1 bt452.2.2 t457).bind fun t460 => ((laws_toPiece.f k l0_0 a0_1 a0_2).bind fun bt461 => ((laws_toCellSS.f k l1).bind fun t467 => ((impl_IsCorona.f k bt461.1 bt461.2.1 bt461.2.2 t467).bind fun t470 => (if (t470 != t460) = true then (some false) else ((laws_toPiece.f k l0_0 a0_1 a0_2).bind fun bt471 => ((laws_eqPiece.f k bt461.1 bt461.2.1 bt461.2.2 bt471.1 bt471.2.1 bt471.2.2).bind fun t476 => (if t476 = true then ((laws_toCellSS.f k l1).bind fun t477 => ((laws_eqCellSS.f k t467 t477).bind fun t480 => (if t480 = true then (some true) else (some false)))) else (some false))))))))))))))
theorem laws_FnExactIsCorona.mono : ∀ a0 a1 a2 a3 k, LeO (laws_FnExactIsCorona.f k a0 a1 a2 a3) (laws_FnExactIsCorona.f (k + 1) a0 a1 a2 a3) := by
 intro a0 a1 a2 a3 k
 unfold laws_FnExactIsCorona.f
 with_reducible repeat' first | exact impl_IsCorona.mono _ _ _ _ _ | exact laws_eqCellSS.mono _ _ _ | exact laws_eqPiece.mono _ _ _ _ _ _ _ | exact laws_szCellSS.mono _ _ _ | exact laws_toCellSS.mono _ _ | exact laws_toPiece.mono _ _ _ _ | exact spec_IsCorona.mono _ _ _ _ _ | exact LeO.refl _ | exact LeO.none _ | refine LeO.ite ?_ ?_ | refine LeO.bind ?_ (fun _ => ?_)
set_option maxHeartbeats 8000000 in
set_option maxRecDepth 100000 in
theorem laws_FnExactIsCorona.calls (k : Nat) (A0_0 : Option Addr) (c0_0 : Nat) (l0_0 : List (S55)) (a0_1 : Int) (a0_2 : Bool) (A1 : Option Addr) (c1 : Nat) (l1 : List (List (S55))) (w : World) (hr0_0 : Kd.C k55 w A0_0 l0_0.length l0_0) (hc0_0 : l0_0.length ≤ c0_0) (hr1 : Kd.C (Kd.slice 55 k55) w A1 l1.length l1) (hc1 : l1.length ≤ c1) (h : laws_FnExactIsCorona.f k l0_0 a0_1 a0_2 l1 = some true) :
  Calls Tryz.prog 3 #[.agg #[.slice A0_0 l0_0.length c0_0, .int .i64 a0_1, .bool a0_2], .slice A1 l1.length c1] w fun e w' => e = .returned (.bool true) ∧ Below w.heap.size w w' := by
 have hu24 := Tryz.underlying24
 have hu31 := Tryz.underlying31
 have HR0_0 := am hr0_0
 have HC0_0 := am hc0_0
 clear hr0_0 hc0_0
 have HR1 := am hr1
 have HC1 := am hc1
 clear hr1 hc1
 have HB := am (Below.refl w.heap.size w)
 have H : ((laws_szPiece.f l0_0 a0_1 a0_2 1048576).bind fun t450 => (if t450 < 0 then (some true) else ((laws_szCellSS.f k l1 t450).bind fun t451 => (if t451 < 0 then (some true) else ((laws_toPiece.f k l0_0 a0_1 a0_2).bind fun bt452 => ((laws_toCellSS.f k l1).bind fun t457 => ((spec_IsCorona.f k bt452.1 bt452.2.1 bt452.2.2 t457).bind fun t460 => ((laws_toPiece.f k l0_0 a0_1 a0_2).bind fun bt461 => ((laws_toCellSS.f k l1).bind fun t467 => ((impl_IsCorona.f k bt461.1 bt461.2.1 bt461.2.2 t467).bind fun t470 => (if (t470 != t460) = true then (some false) else ((laws_toPiece.f k l0_0 a0_1 a0_2).bind fun bt471 => ((laws_eqPiece.f k bt461.1 bt461.2.1 bt461.2.2 bt471.1 bt471.2.1 bt471.2.2).bind fun t476 => (if t476 = true then ((laws_toCellSS.f k l1).bind fun t477 => ((laws_eqCellSS.f k t467 t477).bind fun t480 => (if t480 = true then (some true) else (some false)))) else (some false))))))))))))))) = some true := h
 clear h
 replace H := ob H
 obtain ⟨t450, A30, H⟩ := H
 (try dsimp only at H)
 have A3 := am A30
 clear A30
 by_cases c4 : t450 < 0
 ·rw [if_pos c4] at H
  have c4b0 : decide (t450 < 0) = true := decide_eq_true c4
  clear c4
  clear H
  go_enter Tryz.func3, Tryz.ntmps3
  go_wp2_with (first | ((with_reducible refine gate_dst (N := 2) rfl ?_); refine box_event ?hg (N := 2) ?hd (cs := #[.slice A0_0 l0_0.length c0_0, .int .i64 a0_1, .bool a0_2]) (t := 24) ?hr ?_; (case hd => rfl); (case hg => rfl); (case hr => first | (go_simp; done) | (go_simp; rfl)); intro gb449 hg w5 hbox hb; have n0_ := am (Bb6 zB hb); have n1_ := am (hbox); have n2_ := am ((by rw [hg]; exact (Bb5 zB) : w.heap.size ≤ gb449)); have n3_ := n2_; clear HB; have HB := n0_; have BK449 := n1_; have GW449 := n2_; have GE449 := n3_; clear n0_ n1_ n2_ n3_; clear hb hbox hg; have hcz6_0 : w5.cell? ⟨gb449, 0, none⟩ = some (.slice A0_0 l0_0.length c0_0) := (kc BK449.out 0).trans rfl; have hcz6_1 : w5.cell? ⟨gb449, 1, none⟩ = some (.int .i64 a0_1) := (kc BK449.out 1).trans rfl; have hcz6_2 : w5.cell? ⟨gb449, 2, none⟩ = some (.bool a0_2) := (kc BK449.out 2).trans rfl; have hfz6_0 := kf BK449.out 0; have hfz6_1 := kf BK449.out 1; have hfz6_2 := kf BK449.out 2) | ((with_reducible refine gate_callee (f := 4) rfl ?_); refine goesL_ (some 12) rfl rfl Tryz.func4 (by kernel_rfl) rfl #[.agg #[.slice A0_0 l0_0.length c0_0, .int .i64 a0_1, .bool a0_2], .int .i64 1048576] rfl zL ?_; (with_reducible refine (laws_szPiece.calls _ _ l0_0 a0_1 a0_2 1048576 t450 _ ?side1 ?side2 A3.out).mono ?_); (case side1 => repeat (first | exact (Kd.C_below HR0_0.out HB.out) | (with_reducible refine Kd.C_alloc ?_ _) | (with_reducible refine Kd.C_drewN ?_ _) | (with_reducible refine Kd.C_drew ?_))); (case side2 => exact HC0_0.out); rintro e w7 ⟨rfl, hb⟩; refine ⟨_, rfl, ?_⟩; have n0_ := am (Bk4 (g := gb449) (o := .cells #[.slice A0_0 l0_0.length c0_0, .int .i64 a0_1, .bool a0_2] 24 (0, 0)) (zK BK449) hb); have n1_ := am (Bb6 (by repeat (first | (with_reducible first | exact HB.out | apply Bb1 | apply Bb2 | apply Bb3 | refine Bb4 ?_ GE449.out) | exact HB.out)) hb); clear BK449; clear HB; have BK449 := n0_; have HB := n1_; clear n0_ n1_; (try clear hb); (try clear hb2); (try clear hk); (try clear hi)))
  go_ret
  exact ⟨zE, by repeat (first | (with_reducible first | exact HB.out | apply Bb1 | apply Bb2 | apply Bb3 | refine Bb4 ?_ GE449.out) | exact HB.out)⟩
 rw [if_neg c4] at H
 have c4b0 : decide (t450 < 0) = false := decide_eq_false c4
 clear c4
 replace H := ob H
 obtain ⟨t451, A80, H⟩ := H
 (try dsimp only at H)
 have A8 := am A80
 clear A80
 by_cases c9 : t451 < 0
 ·rw [if_pos c9] at H
  have c9b0 : decide (t451 < 0) = true := decide_eq_true c9
  clear c9
  clear H
  go_enter Tryz.func3, Tryz.ntmps3
  go_wp2_with (first | ((with_reducible refine gate_dst (N := 2) rfl ?_); refine box_event ?hg (N := 2) ?hd (cs := #[.slice A0_0 l0_0.length c0_0, .int .i64 a0_1, .bool a0_2]) (t := 24) ?hr ?_; (case hd => rfl); (case hg => rfl); (case hr => first | (go_simp; done) | (go_simp; rfl)); intro gb449 hg w10 hbox hb; have n0_ := am (Bb6 zB hb); have n1_ := am (hbox); have n2_ := am ((by rw [hg]; exact (Bb5 zB) : w.heap.size ≤ gb449)); have n3_ := n2_; clear HB; have HB := n0_; have BK449 := n1_; have GW449 := n2_; have GE449 := n3_; clear n0_ n1_ n2_ n3_; clear hb hbox hg; have hcz11_0 : w10.cell? ⟨gb449, 0, none⟩ = some (.slice A0_0 l0_0.length c0_0) := (kc BK449.out 0).trans rfl; have hcz11_1 : w10.cell? ⟨gb449, 1, none⟩ = some (.int .i64 a0_1) := (kc BK449.out 1).trans rfl; have hcz11_2 : w10.cell? ⟨gb449, 2, none⟩ = some (.bool a0_2) := (kc BK449.out 2).trans rfl; have hfz11_0 := kf BK449.out 0; have hfz11_1 := kf BK449.out 1; have hfz11_2 := kf BK449.out 2) | ((with_reducible refine gate_callee (f := 4) rfl ?_); refine goesL_ (some 12) rfl rfl Tryz.func4 (by kernel_rfl) rfl #[.agg #[.slice A0_0 l0_0.length c0_0, .int .i64 a0_1, .bool a0_2], .int .i64 1048576] rfl zL ?_; (with_reducible refine (laws_szPiece.calls _ _ l0_0 a0_1 a0_2 1048576 t450 _ ?side1 ?side2 A3.out).mono ?_); (case side1 => repeat (first | exact (Kd.C_below HR0_0.out HB.out) | (with_reducible refine Kd.C_alloc ?_ _) | (with_reducible refine Kd.C_drewN ?_ _) | (with_reducible refine Kd.C_drew ?_))); (case side2 => exact HC0_0.out); rintro e w12 ⟨rfl, hb⟩; refine ⟨_, rfl, ?_⟩; have n0_ := am (Bk4 (g := gb449) (o := .cells #[.slice A0_0 l0_0.length c0_0, .int .i64 a0_1, .bool a0_2] 24 (0, 0)) (zK BK449) hb); have n1_ := am (Bb6 (by repeat (first | (with_reducible first | exact HB.out | apply Bb1 | apply Bb2 | apply Bb3 | refine Bb4 ?_ GE449.out) | exact HB.out)) hb); clear BK449; clear HB; have BK449 := n0_; have HB := n1_; clear n0_ n1_; (try clear hb); (try clear hb2); (try clear hk); (try clear hi)) | ((with_reducible refine gate_callee (f := 5) rfl ?_); refine goesL_ (some 17) rfl rfl Tryz.func5 (by kernel_rfl) rfl #[.slice A1 l1.length c1, .int .i64 t450] rfl zL ?_; (with_reducible refine (laws_szCellSS.calls k _ _ l1 t450 t451 _ ?side1 ?side2 A8.out).mono ?_); (case side1 => repeat (first | exact (Kd.C_below HR1.out HB.out) | (with_reducible refine Kd.C_alloc ?_ _) | (with_reducible refine Kd.C_drewN ?_ _) | (with_reducible refine Kd.C_drew ?_))); (case side2 => exact HC1.out); rintro e w' ⟨rfl, ⟨nd, rfl⟩⟩; refine ⟨_, rfl, ?_⟩))
  go_ret
  exact ⟨zE, by repeat (first | (with_reducible first | exact HB.out | apply Bb1 | apply Bb2 | apply Bb3 | refine Bb4 ?_ GE449.out) | exact HB.out)⟩
 rw [if_neg c9] at H
 have c9b0 : decide (t451 < 0) = false := decide_eq_false c9
 clear c9
 replace H := ob H
 obtain ⟨⟨t452, t455, t456⟩, A130, H⟩ := H
 (try dsimp only at H)
 have A13 := am A130
 clear A130
 replace H := ob H
 obtain ⟨t457, A140, H⟩ := H
 (try dsimp only at H)
 have A14 := am A140
 clear A140
 replace H := ob H
 obtain ⟨t460, A150, H⟩ := H
 (try dsimp only at H)
 have A15 := am A150
 clear A150
 replace H := ob H
 obtain ⟨⟨t461, t464, t465⟩, A160, H⟩ := H
 (try dsimp only at H)
 have A16 := am A160
 clear A160
 replace H := ob H
 obtain ⟨t467, A170, H⟩ := H
 (try dsimp only at H)
 have A17 := am A170
 clear A170
 replace H := ob H
 obtain ⟨t470, A180, H⟩ := H
 (try dsimp only at H)
 have A18 := am A180
 clear A180
 by_cases c19 : (t470 != t460) = true
 ·rw [if_pos c19] at H
  have c19b0 : (t470 != t460) = true := c19
  (try (have c19b1 : decide (t470 = t460) = false := by simpa using c19))
  (try (have c19b2 : (t470 == t460) = false := by simpa using c19))
  (try (have c19b3 : ¬ (t470 = t460) := by simpa using c19))
  clear c19
  exact absurd H (by simp)
 rw [if_neg c19] at H
 have c19b0 : (t470 != t460) = false := by simpa using c19
 (try (have c19b1 : decide (t470 = t460) = true := by simpa using c19))
 (try (have c19b2 : (t470 == t460) = true := by simpa using c19))
 clear c19
 replace H := ob H
 obtain ⟨⟨t471, t474, t475⟩, A200, H⟩ := H
 (try dsimp only at H)
 have A20 := am A200
 clear A200
 replace H := ob H
 obtain ⟨t476, A210, H⟩ := H
 (try dsimp only at H)
 have A21 := am A210
 clear A210
 by_cases c22 : t476 = true
 rotate_left
 ·replace c22 := ef c22
  subst c22
  have H1 : (some false) = some true := by first | (rw [if_neg (show ¬ (false = true) by decide)] at H; exact H) | rfl
  clear H
  have H := H1
  clear H1
  exact absurd H (by simp)
 subst c22
 have H1 : ((laws_toCellSS.f k l1).bind fun t477 => ((laws_eqCellSS.f k t467 t477).bind fun t480 => (if t480 = true then (some true) else (some false)))) = some true := by first | (rw [if_pos rfl] at H; exact H) | rfl
 clear H
 have H := H1
 clear H1
 replace H := ob H
 obtain ⟨t477, A230, H⟩ := H
 (try dsimp only at H)
 have A23 := am A230
 clear A230
 replace H := ob H
 obtain ⟨t480, A240, H⟩ := H
 (try dsimp only at H)
 have A24 := am A240
 clear A240
 by_cases c25 : t480 = true
 rotate_left
 ·replace c25 := ef c25
  subst c25
  have H1 : (some false) = some true := by first | (rw [if_neg (show ¬ (false = true) by decide)] at H; exact H) | rfl
  clear H
  have H := H1
  clear H1
  exact absurd H (by simp)
 subst c25
 have H1 : (some true) = some true := by first | (rw [if_pos rfl] at H; exact H) | rfl
 clear H
 have H := H1
 clear H1
 clear H
 go_enter Tryz.func3, Tryz.ntmps3
 try go_wp2_with (first | ((with_reducible refine gate_dst (N := 2) rfl ?_); refine box_event ?hg (N := 2) ?hd (cs := #[.slice A0_0 l0_0.length c0_0, .int .i64 a0_1, .bool a0_2]) (t := 24) ?hr ?_; (case hd => rfl); (case hg => rfl); (case hr => first | (go_simp; done) | (go_simp; rfl)); intro gb449 hg w26 hbox hb; have n0_ := am (Bb6 zB hb); have n1_ := am (hbox); have n2_ := am ((by rw [hg]; exact (Bb5 zB) : w.heap.size ≤ gb449)); have n3_ := n2_; clear HB; have HB := n0_; have BK449 := n1_; have GW449 := n2_; have GE449 := n3_; clear n0_ n1_ n2_ n3_; clear hb hbox hg; have hcz27_0 : w26.cell? ⟨gb449, 0, none⟩ = some (.slice A0_0 l0_0.length c0_0) := (kc BK449.out 0).trans rfl; have hcz27_1 : w26.cell? ⟨gb449, 1, none⟩ = some (.int .i64 a0_1) := (kc BK449.out 1).trans rfl; have hcz27_2 : w26.cell? ⟨gb449, 2, none⟩ = some (.bool a0_2) := (kc BK449.out 2).trans rfl; have hfz27_0 := kf BK449.out 0; have hfz27_1 := kf BK449.out 1; have hfz27_2 := kf BK449.out 2) | ((with_reducible refine gate_callee (f := 4) rfl ?_); refine goesL_ (some 12) rfl rfl Tryz.func4 (by kernel_rfl) rfl #[.agg #[.slice A0_0 l0_0.length c0_0, .int .i64 a0_1, .bool a0_2], .int .i64 1048576] rfl zL ?_; (with_reducible refine (laws_szPiece.calls _ _ l0_0 a0_1 a0_2 1048576 t450 _ ?side1 ?side2 A3.out).mono ?_); (case side1 => repeat (first | exact (Kd.C_below HR0_0.out HB.out) | (with_reducible refine Kd.C_alloc ?_ _) | (with_reducible refine Kd.C_drewN ?_ _) | (with_reducible refine Kd.C_drew ?_))); (case side2 => exact HC0_0.out); rintro e w28 ⟨rfl, hb⟩; refine ⟨_, rfl, ?_⟩; have n0_ := am (Bk4 (g := gb449) (o := .cells #[.slice A0_0 l0_0.length c0_0, .int .i64 a0_1, .bool a0_2] 24 (0, 0)) (zK BK449) hb); have n1_ := am (Bb6 (by repeat (first | (with_reducible first | exact HB.out | apply Bb1 | apply Bb2 | apply Bb3 | refine Bb4 ?_ GE449.out) | exact HB.out)) hb); clear BK449; clear HB; have BK449 := n0_; have HB := n1_; clear n0_ n1_; (try clear hb); (try clear hb2); (try clear hk); (try clear hi)) | ((with_reducible refine gate_callee (f := 5) rfl ?_); refine goesL_ (some 17) rfl rfl Tryz.func5 (by kernel_rfl) rfl #[.slice A1 l1.length c1, .int .i64 t450] rfl zL ?_; (with_reducible refine (laws_szCellSS.calls k _ _ l1 t450 t451 _ ?side1 ?side2 A8.out).mono ?_); (case side1 => repeat (first | exact (Kd.C_below HR1.out HB.out) | (with_reducible refine Kd.C_alloc ?_ _) | (with_reducible refine Kd.C_drewN ?_ _) | (with_reducible refine Kd.C_drew ?_))); (case side2 => exact HC1.out); rintro e w' ⟨rfl, ⟨nd, rfl⟩⟩; refine ⟨_, rfl, ?_⟩; (try (rw [drewN_self w28]; generalize hq_ : World.drewN w28 _ = w28; have n0_ : Aside0 (w28.heap[gb449]? = some (.cells #[.slice A0_0 l0_0.length c0_0, .int .i64 a0_1, .bool a0_2] 24 (0, 0))) := ⟨by rw [← hq_]; exact (zK BK449)⟩; have n1_ : Aside0 (Below w.heap.size w w28) := ⟨by rw [← hq_]; exact (by repeat (first | (with_reducible first | exact HB.out | apply Bb1 | apply Bb2 | apply Bb3 | refine Bb4 ?_ GE449.out) | exact HB.out))⟩; clear BK449 HB hq_; have BK449 := n0_; have HB := n1_; clear n0_ n1_)); have hcz29_0 : w28.cell? ⟨gb449, 0, none⟩ = some (.slice A0_0 l0_0.length c0_0) := (kc BK449.out 0).trans rfl; have hcz29_1 : w28.cell? ⟨gb449, 1, none⟩ = some (.int .i64 a0_1) := (kc BK449.out 1).trans rfl; have hcz29_2 : w28.cell? ⟨gb449, 2, none⟩ = some (.bool a0_2) := (kc BK449.out 2).trans rfl; have hfz29_0 := kf BK449.out 0; have hfz29_1 := kf BK449.out 1; have hfz29_2 := kf BK449.out 2) | ((with_reducible refine gate_callee (f := 7) rfl ?_); refine goesL_ (some 21) rfl rfl Tryz.func7 (by kernel_rfl) rfl #[.agg #[.slice A0_0 l0_0.length c0_0, .int .i64 a0_1, .bool a0_2]] rfl zL ?_; (with_reducible refine (laws_toPiece.calls k _ _ l0_0 a0_1 a0_2 t452 t455 t456 _ ?side1 ?side2 A13.out).mono ?_); (case side1 => repeat (first | exact (Kd.C_below HR0_0.out HB.out) | (with_reducible refine Kd.C_alloc ?_ _) | (with_reducible refine Kd.C_drewN ?_ _) | (with_reducible refine Kd.C_drew ?_))); (case side2 => exact HC0_0.out); rintro e w30 ⟨v453, rfl, ho0, hb⟩; refine ⟨_, rfl, ?_⟩; have n0_ := am (Kd.R_lower ho0 (Bb5 (by repeat (first | (with_reducible first | exact HB.out | apply Bb1 | apply Bb2 | apply Bb3 | refine Bb4 ?_ GE449.out) | exact HB.out)))); have n1_ := am (Bk4 (g := gb449) (o := .cells #[.slice A0_0 l0_0.length c0_0, .int .i64 a0_1, .bool a0_2] 24 (0, 0)) (zK BK449) hb); have n2_ := am (Bb6 (by repeat (first | (with_reducible first | exact HB.out | apply Bb1 | apply Bb2 | apply Bb3 | refine Bb4 ?_ GE449.out) | exact HB.out)) hb); clear BK449; clear HB; have HO454 := n0_; have BK449 := n1_; have HB := n2_; clear n0_ n1_ n2_; (try clear hb); (try clear hb2); (try clear hk); (try clear hi); (try clear ho0)) | ((with_reducible refine gate_callee (f := 8) rfl ?_); refine goesL_ (some 23) rfl rfl Tryz.func8 (by kernel_rfl) rfl #[.slice A1 l1.length c1] rfl zL ?_; (with_reducible refine (laws_toCellSS.calls k _ _ l1 t457 _ ?side1 ?side2 A14.out).mono ?_); (case side1 => repeat (first | exact (Kd.C_below HR1.out HB.out) | (with_reducible refine Kd.C_alloc ?_ _) | (with_reducible refine Kd.C_drewN ?_ _) | (with_reducible refine Kd.C_drew ?_))); (case side2 => exact HC1.out); rintro e w31 ⟨v458, rfl, ho0, hb⟩; refine ⟨_, rfl, ?_⟩; have n0_ := am (Kd.R_below (zR HO454) hb); have n1_ := am (Kd.S_lower (Kd.S_new' ho0 (Kd.R_lt (zR HO454))) (Bb5 (by repeat (first | (with_reducible first | exact HB.out | apply Bb1 | apply Bb2 | apply Bb3 | refine Bb4 ?_ GE449.out) | exact HB.out)))); have n2_ := am (Bk4 (g := gb449) (o := .cells #[.slice A0_0 l0_0.length c0_0, .int .i64 a0_1, .bool a0_2] 24 (0, 0)) (zK BK449) hb); have n3_ := am (Bb6 (by repeat (first | (with_reducible first | exact HB.out | apply Bb1 | apply Bb2 | apply Bb3 | refine Bb4 ?_ GE449.out) | exact HB.out)) hb); clear HO454; clear BK449; clear HB; have HO454 := n0_; have HO459 := n1_; have BK449 := n2_; have HB := n3_; clear n0_ n1_ n2_ n3_; (try clear hb); (try clear hb2); (try clear hk); (try clear hi); (try clear ho0); obtain ⟨Ao32, co32, eo32⟩ := Kd.R_slice HO454.out; subst eo32; obtain ⟨Ao33, co33, eo33⟩ := Kd.S_slice HO459.out; subst eo33) | ((with_reducible refine gate_callee (f := 6) rfl ?_); refine goesL_ (some 24) rfl rfl Tryz.func6 (by kernel_rfl) rfl #[.agg #[.slice Ao32 t452.length co32, .int .i64 t455, .bool t456], .slice Ao33 t457.length co33] rfl zL ?_; (with_reducible refine (spec_IsCorona.calls k _ _ t452 t455 t456 _ _ t457 t460 _ ?side1 ?side2 ?side3 ?side4 A15.out).mono ?_); (case side1 => repeat (first | exact (Kd.R_reads' HO454.out).2.2 | (with_reducible refine Kd.C_alloc ?_ _) | (with_reducible refine Kd.C_drewN ?_ _) | (with_reducible refine Kd.C_drew ?_))); (case side2 => exact (Kd.R_reads' HO454.out).2.1); (case side3 => repeat (first | exact (Kd.S_reads' HO459.out).2.2 | (with_reducible refine Kd.C_alloc ?_ _) | (with_reducible refine Kd.C_drewN ?_ _) | (with_reducible refine Kd.C_drew ?_))); (case side4 => exact (Kd.S_reads' HO459.out).2.1); rintro e w34 ⟨rfl, hb⟩; refine ⟨_, rfl, ?_⟩; have n0_ := am (Kd.R_below (zR HO454) hb); have n1_ := am (Kd.S_below (by (with_reducible repeat (first | apply Kd.S_alloc | apply Kd.S_drewN | apply Kd.S_drew)); exact HO459.out) hb); have n2_ := am (Bk4 (g := gb449) (o := .cells #[.slice A0_0 l0_0.length c0_0, .int .i64 a0_1, .bool a0_2] 24 (0, 0)) (zK BK449) hb); have n3_ := am (Bb6 (by repeat (first | (with_reducible first | exact HB.out | apply Bb1 | apply Bb2 | apply Bb3 | refine Bb4 ?_ GE449.out) | exact HB.out)) hb); clear HO454; clear HO459; clear BK449; clear HB; have HO454 := n0_; have HO459 := n1_; have BK449 := n2_; have HB := n3_; clear n0_ n1_ n2_ n3_; (try clear hb); (try clear hb2); (try clear hk); (try clear hi); have hcz35_0 : w34.cell? ⟨gb449, 0, none⟩ = some (.slice A0_0 l0_0.length c0_0) := (kc BK449.out 0).trans rfl; have hcz35_1 : w34.cell? ⟨gb449, 1, none⟩ = some (.int .i64 a0_1) := (kc BK449.out 1).trans rfl; have hcz35_2 : w34.cell? ⟨gb449, 2, none⟩ = some (.bool a0_2) := (kc BK449.out 2).trans rfl; have hfz35_0 := kf BK449.out 0; have hfz35_1 := kf BK449.out 1; have hfz35_2 := kf BK449.out 2) | ((with_reducible refine gate_callee (f := 7) rfl ?_); refine goesL_ (some 26) rfl rfl Tryz.func7 (by kernel_rfl) rfl #[.agg #[.slice A0_0 l0_0.length c0_0, .int .i64 a0_1, .bool a0_2]] rfl zL ?_; (with_reducible refine (laws_toPiece.calls k _ _ l0_0 a0_1 a0_2 t461 t464 t465 _ ?side1 ?side2 A16.out).mono ?_); (case side1 => repeat (first | exact (Kd.C_below HR0_0.out HB.out) | (with_reducible refine Kd.C_alloc ?_ _) | (with_reducible refine Kd.C_drewN ?_ _) | (with_reducible refine Kd.C_drew ?_))); (case side2 => exact HC0_0.out); rintro e w36 ⟨v462, rfl, ho0, hb⟩; refine ⟨_, rfl, ?_⟩; have n0_ := am (Kd.R_elder' (zR HO454) (Kd.R_base ho0) hb); have n1_ := am (Kd.S_elder' (by (with_reducible repeat (first | apply Kd.S_alloc | apply Kd.S_drewN | apply Kd.S_drew)); exact HO459.out) (Kd.R_base ho0) hb); have n2_ := am (Kd.R_lower (Kd.R_new' ho0 (Kd.R_lt (zR HO454))) (Bb5 (by repeat (first | (with_reducible first | exact HB.out | apply Bb1 | apply Bb2 | apply Bb3 | refine Bb4 ?_ GE449.out) | exact HB.out)))); have n3_ := am (Bk4 (g := gb449) (o := .cells #[.slice A0_0 l0_0.length c0_0, .int .i64 a0_1, .bool a0_2] 24 (0, 0)) (zK BK449) hb); have n4_ := am (Bb6 (by repeat (first | (with_reducible first | exact HB.out | apply Bb1 | apply Bb2 | apply Bb3 | refine Bb4 ?_ GE449.out) | exact HB.out)) hb); clear HO454; clear HO459; clear BK449; clear HB; have HO454 := n0_; have HO459 := n1_; have HO463 := n2_; have BK449 := n3_; have HB := n4_; clear n0_ n1_ n2_ n3_ n4_; (try clear hb); (try clear hb2); (try clear hk); (try clear hi); (try clear ho0)) | ((with_reducible refine gate_dst (N := 7) rfl ?_); refine box_event ?hg (N := 7) ?hd (cs := #[.slice none 0 0, .int .i64 0, .bool false]) (t := 31) ?hr ?_; (case hd => rfl); (case hg => rfl); (case hr => first | (go_simp; done) | (go_simp; rfl)); intro gb466 hg w37 hbox hb; have n0_ := am (Kd.R_below (zR HO454) hb); have n1_ := am (Kd.S_below (by (with_reducible repeat (first | apply Kd.S_alloc | apply Kd.S_drewN | apply Kd.S_drew)); exact HO459.out) hb); have n2_ := am (Kd.R_below (zR HO463) hb); have n3_ := am (Bk4 (g := gb449) (o := .cells #[.slice A0_0 l0_0.length c0_0, .int .i64 a0_1, .bool a0_2] 24 (0, 0)) (zK BK449) hb); have n4_ := am (Bb6 (by repeat (first | (with_reducible first | exact HB.out | apply Bb1 | apply Bb2 | apply Bb3 | refine Bb4 ?_ GE449.out) | exact HB.out)) hb); have n5_ := am (hbox); have n6_ := am ((by rw [hg]; exact (Bb5 (by repeat (first | (with_reducible first | exact HB.out | apply Bb1 | apply Bb2 | apply Bb3 | refine Bb4 ?_ GE449.out) | exact HB.out))) : w.heap.size ≤ gb466)); have n7_ := n6_; have n8_ := am ((by rw [hg]; exact nl (Bk5 (g := gb449) (o := .cells #[.slice A0_0 l0_0.length c0_0, .int .i64 a0_1, .bool a0_2] 24 (0, 0)) (zK BK449)) : gb449 ≠ gb466)); have n9_ := am ((by rw [hg]; exact ng (Bk5 (g := gb449) (o := .cells #[.slice A0_0 l0_0.length c0_0, .int .i64 a0_1, .bool a0_2] 24 (0, 0)) (zK BK449)) : gb466 ≠ gb449)); clear HO454; clear HO459; clear HO463; clear BK449; clear HB; have HO454 := n0_; have HO459 := n1_; have HO463 := n2_; have BK449 := n3_; have HB := n4_; have BK466 := n5_; have GW466 := n6_; have GE466 := n7_; have NB449_466 := n8_; have NB466_449 := n9_; clear n0_ n1_ n2_ n3_ n4_ n5_ n6_ n7_ n8_ n9_; clear hb hbox hg; obtain ⟨Ao38, co38, eo38⟩ := Kd.R_slice HO463.out; subst eo38; have hnb39 := NB466_449.out; have hnc39 := NB449_466.out; have hcz40_0 : w37.cell? ⟨gb466, 0, none⟩ = some (.slice none 0 0) := (kc BK466.out 0).trans rfl; have hcz40_1 : w37.cell? ⟨gb466, 1, none⟩ = some (.int .i64 0) := (kc BK466.out 1).trans rfl; have hcz40_2 : w37.cell? ⟨gb466, 2, none⟩ = some (.bool false) := (kc BK466.out 2).trans rfl; have hfz40_0 := kf BK466.out 0; have hfz40_1 := kf BK466.out 1; have hfz40_2 := kf BK466.out 2) | ((with_reducible refine gate_callee (f := 8) rfl ?_); refine goesL_ (some 28) rfl rfl Tryz.func8 (by kernel_rfl) rfl #[.slice A1 l1.length c1] rfl zL ?_; (with_reducible refine (laws_toCellSS.calls k _ _ l1 t467 _ ?side1 ?side2 A17.out).mono ?_); (case side1 => exact Kd.C_below HR1.out (by repeat (first | (with_reducible first | exact HB.out | apply Bb1 | apply Bb2 | apply Bb3 | refine Bb4 ?_ GE449.out | refine Bb4 ?_ GE466.out) | exact HB.out))); (case side2 => exact HC1.out); rintro e w41 ⟨v468, rfl, ho0, hb⟩; refine ⟨_, rfl, ?_⟩; have n0_ := am (Kd.R_below (by (with_reducible repeat (first | apply Kd.R_alloc | apply Kd.R_drewN | apply Kd.R_drew)); exact (Kd.R_mono (Kd.R_far (p := ⟨gb466, 2, none⟩) (Kd.R_far (p := ⟨gb466, 1, none⟩) (Kd.R_far (p := ⟨gb466, 0, none⟩) (Kd.R_types HO454.out BK466.out (by decide)) (fun _ hk => hk.2) (.slice Ao38 t461.length co38)) (fun _ hk => hk.2) (.int .i64 t464)) (fun _ hk => hk.2) (.bool t465)) (fun _ h_ => h_.1))) hb); have n1_ := am (Kd.S_elder' (by (with_reducible repeat (first | apply Kd.S_alloc | apply Kd.S_drewN | apply Kd.S_drew)); exact (Kd.S_mono (Kd.S_far (p := ⟨gb466, 2, none⟩) (Kd.S_far (p := ⟨gb466, 1, none⟩) (Kd.S_far (p := ⟨gb466, 0, none⟩) (Kd.S_types HO459.out BK466.out (by decide)) (fun _ hk => hk.2) (.slice Ao38 t461.length co38)) (fun _ hk => hk.2) (.int .i64 t464)) (fun _ hk => hk.2) (.bool t465)) (fun _ h_ => h_.1))) (Kd.S_base ho0) hb); have n2_ := am (Kd.R_below (by (with_reducible repeat (first | apply Kd.R_alloc | apply Kd.R_drewN | apply Kd.R_drew)); exact (Kd.R_mono (Kd.R_far (p := ⟨gb466, 2, none⟩) (Kd.R_far (p := ⟨gb466, 1, none⟩) (Kd.R_far (p := ⟨gb466, 0, none⟩) (Kd.R_types HO463.out BK466.out (by decide)) (fun _ hk => hk.2) (.slice Ao38 t461.length co38)) (fun _ hk => hk.2) (.int .i64 t464)) (fun _ hk => hk.2) (.bool t465)) (fun _ h_ => h_.1))) hb); have n3_ := am (Kd.S_lower (Kd.S_new' (Kd.S_new' (Kd.S_new' ho0 (Kd.R_lt (by (with_reducible repeat (first | apply Kd.R_alloc | apply Kd.R_drewN | apply Kd.R_drew)); exact (Kd.R_mono (Kd.R_far (p := ⟨gb466, 2, none⟩) (Kd.R_far (p := ⟨gb466, 1, none⟩) (Kd.R_far (p := ⟨gb466, 0, none⟩) (Kd.R_types HO454.out BK466.out (by decide)) (fun _ hk => hk.2) (.slice Ao38 t461.length co38)) (fun _ hk => hk.2) (.int .i64 t464)) (fun _ hk => hk.2) (.bool t465)) (fun _ h_ => h_.1))))) (Kd.S_lt (by (with_reducible repeat (first | apply Kd.S_alloc | apply Kd.S_drewN | apply Kd.S_drew)); exact (Kd.S_mono (Kd.S_far (p := ⟨gb466, 2, none⟩) (Kd.S_far (p := ⟨gb466, 1, none⟩) (Kd.S_far (p := ⟨gb466, 0, none⟩) (Kd.S_types HO459.out BK466.out (by decide)) (fun _ hk => hk.2) (.slice Ao38 t461.length co38)) (fun _ hk => hk.2) (.int .i64 t464)) (fun _ hk => hk.2) (.bool t465)) (fun _ h_ => h_.1))))) (Kd.R_lt (by (with_reducible repeat (first | apply Kd.R_alloc | apply Kd.R_drewN | apply Kd.R_drew)); exact (Kd.R_mono (Kd.R_far (p := ⟨gb466, 2, none⟩) (Kd.R_far (p := ⟨gb466, 1, none⟩) (Kd.R_far (p := ⟨gb466, 0, none⟩) (Kd.R_types HO463.out BK466.out (by decide)) (fun _ hk => hk.2) (.slice Ao38 t461.length co38)) (fun _ hk => hk.2) (.int .i64 t464)) (fun _ hk => hk.2) (.bool t465)) (fun _ h_ => h_.1))))) (Bb5 (by repeat (first | (with_reducible first | exact HB.out | apply Bb1 | apply Bb2 | apply Bb3 | refine Bb4 ?_ GE449.out | refine Bb4 ?_ GE466.out) | exact HB.out)))); have n4_ := am (Bk4 (g := gb449) (o := .cells #[.slice A0_0 l0_0.length c0_0, .int .i64 a0_1, .bool a0_2] 24 (0, 0)) (by (with_reducible repeat (first | refine Bk2 ?_ _ | refine Bk3 ?_ | refine Bk1 ?_ _)); refine blk_far ?_ NB449_466.out _; (with_reducible repeat (first | refine Bk2 ?_ _ | refine Bk3 ?_ | refine Bk1 ?_ _)); refine blk_far ?_ NB449_466.out _; (with_reducible repeat (first | refine Bk2 ?_ _ | refine Bk3 ?_ | refine Bk1 ?_ _)); refine blk_far ?_ NB449_466.out _; (with_reducible repeat (first | refine Bk2 ?_ _ | refine Bk3 ?_ | refine Bk1 ?_ _)); exact BK449.out) hb); have n5_ := am (Bk4 (g := gb466) (o := .cells #[.slice Ao38 t461.length co38, .int .i64 t464, .bool t465] 31 (0, 0)) (by (with_reducible repeat (first | refine Bk2 ?_ _ | refine Bk3 ?_ | refine Bk1 ?_ _)); refine blk_put (cs := #[.slice Ao38 t461.length co38, .int .i64 t464, .bool false]) ?_ 2 _ rfl; (with_reducible repeat (first | refine Bk2 ?_ _ | refine Bk3 ?_ | refine Bk1 ?_ _)); refine blk_put (cs := #[.slice Ao38 t461.length co38, .int .i64 0, .bool false]) ?_ 1 _ rfl; (with_reducible repeat (first | refine Bk2 ?_ _ | refine Bk3 ?_ | refine Bk1 ?_ _)); refine blk_put (cs := #[.slice none 0 0, .int .i64 0, .bool false]) ?_ 0 _ rfl; (with_reducible repeat (first | refine Bk2 ?_ _ | refine Bk3 ?_ | refine Bk1 ?_ _)); exact BK466.out) hb); have n6_ := am (Bb6 (by repeat (first | (with_reducible first | exact HB.out | apply Bb1 | apply Bb2 | apply Bb3 | refine Bb4 ?_ GE449.out | refine Bb4 ?_ GE466.out) | exact HB.out)) hb); clear HO454; clear HO459; clear HO463; clear BK449; clear BK466; clear HB; have HO454 := n0_; have HO459 := n1_; have HO463 := n2_; have HO469 := n3_; have BK449 := n4_; have BK466 := n5_; have HB := n6_; clear n0_ n1_ n2_ n3_ n4_ n5_ n6_; (try clear hb); (try clear hb2); (try clear hk); (try clear hi); (try clear ho0); have hcz42_0 : w41.cell? ⟨gb466, 0, none⟩ = some (.slice Ao38 t461.length co38) := (kc BK466.out 0).trans rfl; have hcz42_1 : w41.cell? ⟨gb466, 1, none⟩ = some (.int .i64 t464) := (kc BK466.out 1).trans rfl; have hcz42_2 : w41.cell? ⟨gb466, 2, none⟩ = some (.bool t465) := (kc BK466.out 2).trans rfl; have hfz42_0 := kf BK466.out 0; have hfz42_1 := kf BK466.out 1; have hfz42_2 := kf BK466.out 2; obtain ⟨Ao43, co43, eo43⟩ := Kd.S_slice HO469.out; subst eo43) | ((with_reducible refine gate_callee (f := 9) rfl ?_); refine goesL_ (some 31) rfl rfl Tryz.func9 (by kernel_rfl) rfl #[.agg #[.slice Ao38 t461.length co38, .int .i64 t464, .bool t465], .slice Ao43 t467.length co43] rfl zL ?_; (with_reducible refine (impl_IsCorona.calls k _ _ t461 t464 t465 _ _ t467 t470 _ ?side1 ?side2 ?side3 ?side4 A18.out).mono ?_); (case side1 => repeat (first | exact (Kd.R_reads' HO463.out).2.2 | (with_reducible refine Kd.C_alloc ?_ _) | (with_reducible refine Kd.C_drewN ?_ _) | (with_reducible refine Kd.C_drew ?_))); (case side2 => exact (Kd.R_reads' HO463.out).2.1); (case side3 => repeat (first | exact (Kd.S_reads' HO469.out).2.2 | (with_reducible refine Kd.C_alloc ?_ _) | (with_reducible refine Kd.C_drewN ?_ _) | (with_reducible refine Kd.C_drew ?_))); (case side4 => exact (Kd.S_reads' HO469.out).2.1); rintro e w44 ⟨rfl, hb⟩; refine ⟨_, rfl, ?_⟩; have n0_ := am (Kd.R_below (zR HO454) hb); have n1_ := am (Kd.S_below (by (with_reducible repeat (first | apply Kd.S_alloc | apply Kd.S_drewN | apply Kd.S_drew)); exact HO459.out) hb); have n2_ := am (Kd.R_below (zR HO463) hb); have n3_ := am (Kd.S_below (by (with_reducible repeat (first | apply Kd.S_alloc | apply Kd.S_drewN | apply Kd.S_drew)); exact HO469.out) hb); have n4_ := am (Bk4 (g := gb449) (o := .cells #[.slice A0_0 l0_0.length c0_0, .int .i64 a0_1, .bool a0_2] 24 (0, 0)) (zK BK449) hb); have n5_ := am (Bk4 (g := gb466) (o := .cells #[.slice Ao38 t461.length co38, .int .i64 t464, .bool t465] 31 (0, 0)) (zK BK466) hb); have n6_ := am (Bb6 (by repeat (first | (with_reducible first | exact HB.out | apply Bb1 | apply Bb2 | apply Bb3 | refine Bb4 ?_ GE449.out | refine Bb4 ?_ GE466.out) | exact HB.out)) hb); clear HO454; clear HO459; clear HO463; clear HO469; clear BK449; clear BK466; clear HB; have HO454 := n0_; have HO459 := n1_; have HO463 := n2_; have HO469 := n3_; have BK449 := n4_; have BK466 := n5_; have HB := n6_; clear n0_ n1_ n2_ n3_ n4_ n5_ n6_; (try clear hb); (try clear hb2); (try clear hk); (try clear hi)))
 have n0_ := am (Kd.R_drew HO454.out)
 have n1_ := am (Kd.S_drew HO459.out)
 have n2_ := am (Kd.R_drew HO463.out)
 have n3_ := am (Kd.S_drew HO469.out)
 have n4_ := am (Bk3 BK449.out)
 have n5_ := am (Bk3 BK466.out)
 have n6_ := am (Bb3 HB.out)
 clear HO454
 clear HO459
 clear HO463
 clear HO469
 clear BK449
 clear BK466
 clear HB
 have HO454 := n0_
 have HO459 := n1_
 have HO463 := n2_
 have HO469 := n3_
 have BK449 := n4_
 have BK466 := n5_
 have HB := n6_
 clear n0_ n1_ n2_ n3_ n4_ n5_ n6_
 refine start_ (n := 5) (S := fun w' => w'.cell? ⟨gb466, 0, none⟩ = some (.slice Ao38 t461.length co38) ∧ w'.cell? ⟨gb466, 1, none⟩ = some (.int .i64 t464) ∧ w'.cell? ⟨gb466, 2, none⟩ = some (.bool t465) ∧ w'.cell? ⟨gb449, 0, none⟩ = some (.slice A0_0 l0_0.length c0_0) ∧ w'.cell? ⟨gb449, 1, none⟩ = some (.int .i64 a0_1) ∧ w'.cell? ⟨gb449, 2, none⟩ = some (.bool a0_2)) (ds := []) #[z',z',z',z',z'] (by kernel_rfl) rfl rfl ⟨(kc BK466.out 0).trans rfl, (kc BK466.out 1).trans rfl, (kc BK466.out 2).trans rfl, (kc BK449.out 0).trans rfl, (kc BK449.out 1).trans rfl, (kc BK449.out 2).trans rfl⟩ (fun hHeld => ?_)
 generalize w44.drew = w45 at HO454 HO459 HO463 HO469 BK449 BK466 HB hHeld ⊢
 refine take_ (i := 0) (N := some 35) (v := ?_) (a' := ?_) #[o',z',z',z',z'] rfl rfl (by kernel_rfl) (fun _ _ _ h => h) (Or.inl ⟨by rfl, ?_⟩) hHeld ?_ ?_
 rotate_left
 ·rintro w' ⟨s0, s1, s2, s3, s4, s5⟩
  go_simp
  rfl
 rotate_left
 ·exact zP
 refine take_ (i := 1) (N := some 36) (v := ?_) (a' := ?_) #[o',o',z',z',z'] rfl rfl (by kernel_rfl) (fun _ _ _ h => h) (Or.inl ⟨by rfl, ?_⟩) hHeld ?_ ?_
 rotate_left
 ·rintro w' ⟨s0, s1, s2, s3, s4, s5⟩
  go_simp
  rfl
 rotate_left
 ·exact zP
 refine one_ (i := 2) (N := some 37) #[o',o',o',z',z'] rfl rfl (by kernel_rfl) (by decide) (fun K hK => ?_)
 refine goes_ Tryz.func7 (by kernel_rfl) rfl #[.agg #[.slice A0_0 l0_0.length c0_0, .int .i64 a0_1, .bool a0_2]] (by rfl) rfl rfl zL ?_
 with_reducible refine (laws_toPiece.calls k _ _ l0_0 a0_1 a0_2 t471 t474 t475 _ ?side1 ?side2 A20.out).mono ?_
 (case side1 => repeat (first | exact (Kd.C_below HR0_0.out HB.out) | (with_reducible refine Kd.C_alloc ?_ _) | (with_reducible refine Kd.C_drewN ?_ _) | (with_reducible refine Kd.C_drew ?_)))
 (case side2 => exact HC0_0.out)
 rintro e w46 ⟨v472, rfl, ho0, hb⟩
 refine ⟨_, rfl, ?_⟩
 have n0_ := am (Kd.R_elder' (zR HO454) (Kd.R_base ho0) hb)
 have n1_ := am (Kd.S_elder' (by (with_reducible repeat (first | apply Kd.S_alloc | apply Kd.S_drewN | apply Kd.S_drew)); exact HO459.out) (Kd.R_base ho0) hb)
 have n2_ := am (Kd.R_elder' (zR HO463) (Kd.R_base ho0) hb)
 have n3_ := am (Kd.S_elder' (by (with_reducible repeat (first | apply Kd.S_alloc | apply Kd.S_drewN | apply Kd.S_drew)); exact HO469.out) (Kd.R_base ho0) hb)
 have n4_ := am (Kd.R_lower (Kd.R_new' (Kd.R_new' ho0 (Kd.R_lt (zR HO454))) (Kd.R_lt (zR HO463))) (Bb5 (by repeat (first | (with_reducible first | exact HB.out | apply Bb1 | apply Bb2 | apply Bb3 | refine Bb4 ?_ GE449.out | refine Bb4 ?_ GE466.out) | exact HB.out))))
 have n5_ := am (Bk4 (g := gb449) (o := .cells #[.slice A0_0 l0_0.length c0_0, .int .i64 a0_1, .bool a0_2] 24 (0, 0)) (zK BK449) hb)
 have n6_ := am (Bk4 (g := gb466) (o := .cells #[.slice Ao38 t461.length co38, .int .i64 t464, .bool t465] 31 (0, 0)) (zK BK466) hb)
 have n7_ := am (Bb6 (by repeat (first | (with_reducible first | exact HB.out | apply Bb1 | apply Bb2 | apply Bb3 | refine Bb4 ?_ GE449.out | refine Bb4 ?_ GE466.out) | exact HB.out)) hb)
 clear HO454
 clear HO459
 clear HO463
 clear HO469
 clear BK449
 clear BK466
 clear HB
 have HO454 := n0_
 have HO459 := n1_
 have HO463 := n2_
 have HO469 := n3_
 have HO473 := n4_
 have BK449 := n5_
 have BK466 := n6_
 have HB := n7_
 clear n0_ n1_ n2_ n3_ n4_ n5_ n6_ n7_
 (try clear hb)
 (try clear hb2)
 (try clear hk)
 (try clear hi)
 (try clear ho0)
 obtain ⟨Ao47, co47, eo47⟩ := Kd.R_slice HO473.out
 (first | subst eo47 | (injection eo47 with f1_ f2_ f3_; have f4_ := f1_.symm; have f5_ := f3_.symm; clear f1_ f2_ f3_; subst f4_; subst f5_))
 refine hK.out _ _ ⟨(kc BK466.out 0).trans rfl, (kc BK466.out 1).trans rfl, (kc BK466.out 2).trans rfl, (kc BK449.out 0).trans rfl, (kc BK449.out 1).trans rfl, (kc BK449.out 2).trans rfl⟩ (fun hHeld => ?_)
 clear hK K
 refine norm_ (a' := ?_) ?_ ?_
 rotate_left
 ·show Act.put _ (some 37) _ = _
  simp only [Act.put, sa, i64_w, i32_w]
  rfl
 refine one_ (i := 3) (N := some 38) #[o',o',o',o',z'] rfl rfl (by kernel_rfl) (by decide) (fun K hK => ?_)
 refine goes_ Tryz.func10 (by kernel_rfl) rfl #[.agg #[.slice Ao38 t461.length co38, .int .i64 t464, .bool t465], .agg #[.slice Ao47 t471.length co47, .int .i64 t474, .bool t475]] (by rfl) rfl rfl zL ?_
 with_reducible refine (laws_eqPiece.calls k _ _ t461 t464 t465 _ _ t471 t474 t475 true _ ?side1 ?side2 ?side3 ?side4 A21.out).mono ?_
 (case side1 => repeat (first | exact (Kd.R_reads' HO463.out).2.2 | (with_reducible refine Kd.C_alloc ?_ _) | (with_reducible refine Kd.C_drewN ?_ _) | (with_reducible refine Kd.C_drew ?_)))
 (case side2 => exact (Kd.R_reads' HO463.out).2.1)
 (case side3 => repeat (first | exact (Kd.R_reads' HO473.out).2.2 | (with_reducible refine Kd.C_alloc ?_ _) | (with_reducible refine Kd.C_drewN ?_ _) | (with_reducible refine Kd.C_drew ?_)))
 (case side4 => exact (Kd.R_reads' HO473.out).2.1)
 rintro e w48 ⟨rfl, hb⟩
 refine ⟨_, rfl, ?_⟩
 have n0_ := am (Kd.R_below (zR HO454) hb)
 have n1_ := am (Kd.S_below (by (with_reducible repeat (first | apply Kd.S_alloc | apply Kd.S_drewN | apply Kd.S_drew)); exact HO459.out) hb)
 have n2_ := am (Kd.R_below (zR HO463) hb)
 have n3_ := am (Kd.S_below (by (with_reducible repeat (first | apply Kd.S_alloc | apply Kd.S_drewN | apply Kd.S_drew)); exact HO469.out) hb)
 have n4_ := am (Kd.R_below (zR HO473) hb)
 have n5_ := am (Bk4 (g := gb449) (o := .cells #[.slice A0_0 l0_0.length c0_0, .int .i64 a0_1, .bool a0_2] 24 (0, 0)) (zK BK449) hb)
 have n6_ := am (Bk4 (g := gb466) (o := .cells #[.slice Ao38 t461.length co38, .int .i64 t464, .bool t465] 31 (0, 0)) (zK BK466) hb)
 have n7_ := am (Bb6 (by repeat (first | (with_reducible first | exact HB.out | apply Bb1 | apply Bb2 | apply Bb3 | refine Bb4 ?_ GE449.out | refine Bb4 ?_ GE466.out) | exact HB.out)) hb)
 clear HO454
 clear HO459
 clear HO463
 clear HO469
 clear HO473
 clear BK449
 clear BK466
 clear HB
 have HO454 := n0_
 have HO459 := n1_
 have HO463 := n2_
 have HO469 := n3_
 have HO473 := n4_
 have BK449 := n5_
 have BK466 := n6_
 have HB := n7_
 clear n0_ n1_ n2_ n3_ n4_ n5_ n6_ n7_
 (try clear hb)
 (try clear hb2)
 (try clear hk)
 (try clear hi)
 refine hK.out _ _ ⟨(kc BK466.out 0).trans rfl, (kc BK466.out 1).trans rfl, (kc BK466.out 2).trans rfl, (kc BK449.out 0).trans rfl, (kc BK449.out 1).trans rfl, (kc BK449.out 2).trans rfl⟩ (fun hHeld => ?_)
 clear hK K
 refine norm_ (a' := ?_) ?_ ?_
 rotate_left
 ·show Act.put _ (some 38) _ = _
  simp only [Act.put, sa, i64_w, i32_w]
  rfl
 refine pure_ (i := 4) (N := some 39) (v := ?_) (a' := ?_) #[o',o',o',o',o'] rfl rfl (by kernel_rfl) (fun _ _ _ h => h) (Or.inl ⟨by rfl, ?_⟩) ?_ ?_
 rotate_left
 ·intro w'
  go_simp
  rfl
 rotate_left
 ·exact zP
 refine done_ (by kernel_rfl) ?_
 try go_wp2_with (first | ((with_reducible refine gate_callee (f := 8) rfl ?_); refine goesL_ (some 42) rfl rfl Tryz.func8 (by kernel_rfl) rfl #[.slice A1 l1.length c1] rfl zL ?_; (with_reducible refine (laws_toCellSS.calls k _ _ l1 t477 _ ?side1 ?side2 A23.out).mono ?_); (case side1 => repeat (first | exact (Kd.C_below HR1.out HB.out) | (with_reducible refine Kd.C_alloc ?_ _) | (with_reducible refine Kd.C_drewN ?_ _) | (with_reducible refine Kd.C_drew ?_))); (case side2 => exact HC1.out); rintro e w49 ⟨v478, rfl, ho0, hb⟩; refine ⟨_, rfl, ?_⟩; have n0_ := am (Kd.R_below (zR HO454) hb); have n1_ := am (Kd.S_elder' (by (with_reducible repeat (first | apply Kd.S_alloc | apply Kd.S_drewN | apply Kd.S_drew)); exact HO459.out) (Kd.S_base ho0) hb); have n2_ := am (Kd.R_below (zR HO463) hb); have n3_ := am (Kd.S_elder' (by (with_reducible repeat (first | apply Kd.S_alloc | apply Kd.S_drewN | apply Kd.S_drew)); exact HO469.out) (Kd.S_base ho0) hb); have n4_ := am (Kd.R_below (zR HO473) hb); have n5_ := am (Kd.S_lower (Kd.S_new' (Kd.S_new' (Kd.S_new' (Kd.S_new' (Kd.S_new' ho0 (Kd.R_lt (zR HO454))) (Kd.S_lt (by (with_reducible repeat (first | apply Kd.S_alloc | apply Kd.S_drewN | apply Kd.S_drew)); exact HO459.out))) (Kd.R_lt (zR HO463))) (Kd.S_lt (by (with_reducible repeat (first | apply Kd.S_alloc | apply Kd.S_drewN | apply Kd.S_drew)); exact HO469.out))) (Kd.R_lt (zR HO473))) (Bb5 (by repeat (first | (with_reducible first | exact HB.out | apply Bb1 | apply Bb2 | apply Bb3 | refine Bb4 ?_ GE449.out | refine Bb4 ?_ GE466.out) | exact HB.out)))); have n6_ := am (Bk4 (g := gb449) (o := .cells #[.slice A0_0 l0_0.length c0_0, .int .i64 a0_1, .bool a0_2] 24 (0, 0)) (zK BK449) hb); have n7_ := am (Bk4 (g := gb466) (o := .cells #[.slice Ao38 t461.length co38, .int .i64 t464, .bool t465] 31 (0, 0)) (zK BK466) hb); have n8_ := am (Bb6 (by repeat (first | (with_reducible first | exact HB.out | apply Bb1 | apply Bb2 | apply Bb3 | refine Bb4 ?_ GE449.out | refine Bb4 ?_ GE466.out) | exact HB.out)) hb); clear HO454; clear HO459; clear HO463; clear HO469; clear HO473; clear BK449; clear BK466; clear HB; have HO454 := n0_; have HO459 := n1_; have HO463 := n2_; have HO469 := n3_; have HO473 := n4_; have HO479 := n5_; have BK449 := n6_; have BK466 := n7_; have HB := n8_; clear n0_ n1_ n2_ n3_ n4_ n5_ n6_ n7_ n8_; (try clear hb); (try clear hb2); (try clear hk); (try clear hi); (try clear ho0); obtain ⟨Ao50, co50, eo50⟩ := Kd.S_slice HO479.out; subst eo50) | ((with_reducible refine gate_callee (f := 11) rfl ?_); refine goesL_ (some 43) rfl rfl Tryz.func11 (by kernel_rfl) rfl #[.slice Ao43 t467.length co43, .slice Ao50 t477.length co50] rfl zL ?_; (with_reducible refine (laws_eqCellSS.calls k _ _ t467 _ _ t477 true _ ?side1 ?side2 ?side3 ?side4 A24.out).mono ?_); (case side1 => repeat (first | exact (Kd.S_reads' HO469.out).2.2 | (with_reducible refine Kd.C_alloc ?_ _) | (with_reducible refine Kd.C_drewN ?_ _) | (with_reducible refine Kd.C_drew ?_))); (case side2 => exact (Kd.S_reads' HO469.out).2.1); (case side3 => repeat (first | exact (Kd.S_reads' HO479.out).2.2 | (with_reducible refine Kd.C_alloc ?_ _) | (with_reducible refine Kd.C_drewN ?_ _) | (with_reducible refine Kd.C_drew ?_))); (case side4 => exact (Kd.S_reads' HO479.out).2.1); rintro e w51 ⟨rfl, hb⟩; refine ⟨_, rfl, ?_⟩; have n0_ := am (Kd.R_below (zR HO454) hb); have n1_ := am (Kd.S_below (by (with_reducible repeat (first | apply Kd.S_alloc | apply Kd.S_drewN | apply Kd.S_drew)); exact HO459.out) hb); have n2_ := am (Kd.R_below (zR HO463) hb); have n3_ := am (Kd.S_below (by (with_reducible repeat (first | apply Kd.S_alloc | apply Kd.S_drewN | apply Kd.S_drew)); exact HO469.out) hb); have n4_ := am (Kd.R_below (zR HO473) hb); have n5_ := am (Kd.S_below (by (with_reducible repeat (first | apply Kd.S_alloc | apply Kd.S_drewN | apply Kd.S_drew)); exact HO479.out) hb); have n6_ := am (Bk4 (g := gb449) (o := .cells #[.slice A0_0 l0_0.length c0_0, .int .i64 a0_1, .bool a0_2] 24 (0, 0)) (zK BK449) hb); have n7_ := am (Bk4 (g := gb466) (o := .cells #[.slice Ao38 t461.length co38, .int .i64 t464, .bool t465] 31 (0, 0)) (zK BK466) hb); have n8_ := am (Bb6 (by repeat (first | (with_reducible first | exact HB.out | apply Bb1 | apply Bb2 | apply Bb3 | refine Bb4 ?_ GE449.out | refine Bb4 ?_ GE466.out) | exact HB.out)) hb); clear HO454; clear HO459; clear HO463; clear HO469; clear HO473; clear HO479; clear BK449; clear BK466; clear HB; have HO454 := n0_; have HO459 := n1_; have HO463 := n2_; have HO469 := n3_; have HO473 := n4_; have HO479 := n5_; have BK449 := n6_; have BK466 := n7_; have HB := n8_; clear n0_ n1_ n2_ n3_ n4_ n5_ n6_ n7_ n8_; (try clear hb); (try clear hb2); (try clear hk); (try clear hi)))
 go_ret
 exact ⟨zE, by repeat (first | (with_reducible first | exact HB.out | apply Bb1 | apply Bb2 | apply Bb3 | refine Bb4 ?_ GE449.out | refine Bb4 ?_ GE466.out) | exact HB.out)⟩

end Go.Proofs.YtbbhohaenijaoaaGreat.Q
