/- Written by a program of this session (wip/tools/pp.py) out of the translation, with the kit's printer. -/
import Derived.Test.YtbbhohaenijaoaaGreatQ0
import Derived.Test.YtbbhohaenijaoaaGreatQGimplIsPiece
import Derived.Test.YtbbhohaenijaoaaGreatQGimplisCorona
namespace Go.Proofs.YtbbhohaenijaoaaGreat.Q
open Go.RowKit Go.Proofs.YtbbhohaenijaoaaGreatW.PrintWords Go.Proofs.YtbbhohaenijaoaaGreatW.PrintLast Go.Proofs.YtbbhohaenijaoaaGreatW.PrintMore
attribute [local go_sem] max2_int min2_int max_two min_two max_three min_three max_four min_four
set_option linter.unusedVariables false
set_option linter.unusedSimpArgs false

/-! ### impl_IsCorona: function 9 -/
def impl_IsCorona.f (k : Nat) (l0_0 : List (S44)) (a0_1 : Int) (a0_2 : Bool) (l1 : List (List (S44))) : Option (Bool) := (impl_IsPiece.f k l0_0 a0_1 a0_2).bind fun t439 => (if t439 = true then ((impl_isCorona.f k l0_0 a0_1 a0_2 l1).bind fun t440 => (some t440)) else (some false))
theorem impl_IsCorona.mono : ∀ a0 a1 a2 a3 k, LeO (impl_IsCorona.f k a0 a1 a2 a3) (impl_IsCorona.f (k + 1) a0 a1 a2 a3) := by
 intro a0 a1 a2 a3 k
 unfold impl_IsCorona.f
 with_reducible repeat' first | exact impl_IsPiece.mono _ _ _ _ | exact impl_isCorona.mono _ _ _ _ _ | exact LeO.refl _ | exact LeO.none _ | refine LeO.ite ?_ ?_ | refine LeO.bind ?_ (fun _ => ?_)
set_option maxHeartbeats 8000000 in
set_option maxRecDepth 100000 in
theorem impl_IsCorona.calls (k : Nat) (A0_0 : Option Addr) (c0_0 : Nat) (l0_0 : List (S44)) (a0_1 : Int) (a0_2 : Bool) (A1 : Option Addr) (c1 : Nat) (l1 : List (List (S44))) (r : Bool) (w : World) (hr0_0 : Kd.C k44 w A0_0 l0_0.length l0_0) (hc0_0 : l0_0.length ≤ c0_0) (hr1 : Kd.C (Kd.slice 44 k44) w A1 l1.length l1) (hc1 : l1.length ≤ c1) (h : impl_IsCorona.f k l0_0 a0_1 a0_2 l1 = some r) :
  Calls Tryz.prog 9 #[.agg #[.slice A0_0 l0_0.length c0_0, .int .i64 a0_1, .bool a0_2], .slice A1 l1.length c1] w fun e w' => e = .returned (.bool r) ∧ Below w.heap.size w w' := by
 have hu31 := Tryz.underlying31
 have HR0_0 := am hr0_0
 have HC0_0 := am hc0_0
 clear hr0_0 hc0_0
 have HR1 := am hr1
 have HC1 := am hc1
 clear hr1 hc1
 have HB := am (Below.refl w.heap.size w)
 have H : ((impl_IsPiece.f k l0_0 a0_1 a0_2).bind fun t439 => (if t439 = true then ((impl_isCorona.f k l0_0 a0_1 a0_2 l1).bind fun t440 => (some t440)) else (some false))) = some r := h
 clear h
 replace H := ob H
 obtain ⟨t439, A30, H⟩ := H
 (try dsimp only at H)
 have A3 := am A30
 clear A30
 by_cases c4 : t439 = true
 rotate_left
 ·replace c4 := ef c4
  subst c4
  have H1 : (some false) = some r := by first | (rw [if_neg (show ¬ (false = true) by decide)] at H; exact H) | rfl
  clear H
  have H := H1
  clear H1
  obtain rfl := oi H
  go_enter Tryz.func9, Tryz.ntmps9
  go_wp2_with (first | ((with_reducible refine gate_dst (N := 2) rfl ?_); refine box_event ?hg (N := 2) ?hd (cs := #[.slice A0_0 l0_0.length c0_0, .int .i64 a0_1, .bool a0_2]) (t := 31) ?hr ?_; (case hd => rfl); (case hg => rfl); (case hr => first | (go_simp; done) | (go_simp; rfl)); intro gb438 hg w11 hbox hb; have n0_ := am (Bb6 zB hb); have n1_ := am (hbox); have n2_ := am ((by rw [hg]; exact (Bb5 zB) : w.heap.size ≤ gb438)); have n3_ := n2_; clear HB; have HB := n0_; have BK438 := n1_; have GW438 := n2_; have GE438 := n3_; clear n0_ n1_ n2_ n3_; clear hb hbox hg; have hcz12_0 : w11.cell? ⟨gb438, 0, none⟩ = some (.slice A0_0 l0_0.length c0_0) := (kc BK438.out 0).trans rfl; have hcz12_1 : w11.cell? ⟨gb438, 1, none⟩ = some (.int .i64 a0_1) := (kc BK438.out 1).trans rfl; have hcz12_2 : w11.cell? ⟨gb438, 2, none⟩ = some (.bool a0_2) := (kc BK438.out 2).trans rfl; have hfz12_0 := kf BK438.out 0; have hfz12_1 := kf BK438.out 1; have hfz12_2 := kf BK438.out 2) | ((with_reducible refine gate_callee (f := 19) rfl ?_); refine goesL_ (some 6) rfl rfl Tryz.func19 (by kernel_rfl) rfl #[.agg #[.slice A0_0 l0_0.length c0_0, .int .i64 a0_1, .bool a0_2]] rfl zL ?_; (with_reducible refine (impl_IsPiece.calls k _ _ l0_0 a0_1 a0_2 false _ ?side1 ?side2 A3.out).mono ?_); (case side1 => repeat (first | exact (Kd.C_below HR0_0.out HB.out) | (with_reducible refine Kd.C_alloc ?_ _) | (with_reducible refine Kd.C_drewN ?_ _) | (with_reducible refine Kd.C_drew ?_))); (case side2 => exact HC0_0.out); rintro e w13 ⟨rfl, hb⟩; refine ⟨_, rfl, ?_⟩; have n0_ := am (Bk4 (g := gb438) (o := .cells #[.slice A0_0 l0_0.length c0_0, .int .i64 a0_1, .bool a0_2] 31 (0, 0)) (zK BK438) hb); have n1_ := am (Bb6 (by repeat (first | (with_reducible first | exact HB.out | apply Bb1 | apply Bb2 | apply Bb3 | refine Bb4 ?_ GE438.out) | exact HB.out)) hb); clear BK438; clear HB; have BK438 := n0_; have HB := n1_; clear n0_ n1_; (try clear hb); (try clear hb2); (try clear hk); (try clear hi)))
  go_ret
  exact ⟨zE, by repeat (first | (with_reducible first | exact HB.out | apply Bb1 | apply Bb2 | apply Bb3 | refine Bb4 ?_ GE438.out) | exact HB.out)⟩
 subst c4
 have H1 : ((impl_isCorona.f k l0_0 a0_1 a0_2 l1).bind fun t440 => (some t440)) = some r := by first | (rw [if_pos rfl] at H; exact H) | rfl
 clear H
 have H := H1
 clear H1
 replace H := ob H
 obtain ⟨t440, A50, H⟩ := H
 replace H : (some t440) = some r := H
 have A5 := am A50
 clear A50
 obtain rfl := oi H
 go_enter Tryz.func9, Tryz.ntmps9
 go_wp2_with (first | ((with_reducible refine gate_dst (N := 2) rfl ?_); refine box_event ?hg (N := 2) ?hd (cs := #[.slice A0_0 l0_0.length c0_0, .int .i64 a0_1, .bool a0_2]) (t := 31) ?hr ?_; (case hd => rfl); (case hg => rfl); (case hr => first | (go_simp; done) | (go_simp; rfl)); intro gb438 hg w6 hbox hb; have n0_ := am (Bb6 zB hb); have n1_ := am (hbox); have n2_ := am ((by rw [hg]; exact (Bb5 zB) : w.heap.size ≤ gb438)); have n3_ := n2_; clear HB; have HB := n0_; have BK438 := n1_; have GW438 := n2_; have GE438 := n3_; clear n0_ n1_ n2_ n3_; clear hb hbox hg; have hcz7_0 : w6.cell? ⟨gb438, 0, none⟩ = some (.slice A0_0 l0_0.length c0_0) := (kc BK438.out 0).trans rfl; have hcz7_1 : w6.cell? ⟨gb438, 1, none⟩ = some (.int .i64 a0_1) := (kc BK438.out 1).trans rfl; have hcz7_2 : w6.cell? ⟨gb438, 2, none⟩ = some (.bool a0_2) := (kc BK438.out 2).trans rfl; have hfz7_0 := kf BK438.out 0; have hfz7_1 := kf BK438.out 1; have hfz7_2 := kf BK438.out 2) | ((with_reducible refine gate_callee (f := 19) rfl ?_); refine goesL_ (some 6) rfl rfl Tryz.func19 (by kernel_rfl) rfl #[.agg #[.slice A0_0 l0_0.length c0_0, .int .i64 a0_1, .bool a0_2]] rfl zL ?_; (with_reducible refine (impl_IsPiece.calls k _ _ l0_0 a0_1 a0_2 true _ ?side1 ?side2 A3.out).mono ?_); (case side1 => repeat (first | exact (Kd.C_below HR0_0.out HB.out) | (with_reducible refine Kd.C_alloc ?_ _) | (with_reducible refine Kd.C_drewN ?_ _) | (with_reducible refine Kd.C_drew ?_))); (case side2 => exact HC0_0.out); rintro e w8 ⟨rfl, hb⟩; refine ⟨_, rfl, ?_⟩; have n0_ := am (Bk4 (g := gb438) (o := .cells #[.slice A0_0 l0_0.length c0_0, .int .i64 a0_1, .bool a0_2] 31 (0, 0)) (zK BK438) hb); have n1_ := am (Bb6 (by repeat (first | (with_reducible first | exact HB.out | apply Bb1 | apply Bb2 | apply Bb3 | refine Bb4 ?_ GE438.out) | exact HB.out)) hb); clear BK438; clear HB; have BK438 := n0_; have HB := n1_; clear n0_ n1_; (try clear hb); (try clear hb2); (try clear hk); (try clear hi); have hcz9_0 : w8.cell? ⟨gb438, 0, none⟩ = some (.slice A0_0 l0_0.length c0_0) := (kc BK438.out 0).trans rfl; have hcz9_1 : w8.cell? ⟨gb438, 1, none⟩ = some (.int .i64 a0_1) := (kc BK438.out 1).trans rfl; have hcz9_2 : w8.cell? ⟨gb438, 2, none⟩ = some (.bool a0_2) := (kc BK438.out 2).trans rfl; have hfz9_0 := kf BK438.out 0; have hfz9_1 := kf BK438.out 1; have hfz9_2 := kf BK438.out 2) | (go_at_call 20; (with_reducible refine (impl_isCorona.calls k _ _ l0_0 a0_1 a0_2 _ _ l1 t440 _ ?side1 ?side2 ?side3 ?side4 A5.out).mono ?_); (case side1 => repeat (first | exact (Kd.C_below HR0_0.out HB.out) | (with_reducible refine Kd.C_alloc ?_ _) | (with_reducible refine Kd.C_drewN ?_ _) | (with_reducible refine Kd.C_drew ?_))); (case side2 => exact HC0_0.out); (case side3 => repeat (first | exact (Kd.C_below HR1.out HB.out) | (with_reducible refine Kd.C_alloc ?_ _) | (with_reducible refine Kd.C_drewN ?_ _) | (with_reducible refine Kd.C_drew ?_))); (case side4 => exact HC1.out); rintro e w10 ⟨rfl, hb⟩; have n0_ := am (Bk4 (g := gb438) (o := .cells #[.slice A0_0 l0_0.length c0_0, .int .i64 a0_1, .bool a0_2] 31 (0, 0)) (zK BK438) hb); have n1_ := am (Bb6 (by repeat (first | (with_reducible first | exact HB.out | apply Bb1 | apply Bb2 | apply Bb3 | refine Bb4 ?_ GE438.out) | exact HB.out)) hb); clear BK438; clear HB; have BK438 := n0_; have HB := n1_; clear n0_ n1_; (try clear hb); (try clear hb2); (try clear hk); (try clear hi)))
 go_ret
 exact ⟨zE, by repeat (first | (with_reducible first | exact HB.out | apply Bb1 | apply Bb2 | apply Bb3 | refine Bb4 ?_ GE438.out) | exact HB.out)⟩

/-! ### laws_eqCell: function 43 -/
def laws_eqCell.f (a0_0 : Int) (a0_1 : Int) (a1_0 : Int) (a1_1 : Int) : Option (Bool) := if a0_0 = a1_0 then (if a0_1 = a1_1 then (some true) else (some false)) else (some false)
set_option maxHeartbeats 8000000 in
set_option maxRecDepth 100000 in
theorem laws_eqCell.calls (a0_0 : Int) (a0_1 : Int) (a1_0 : Int) (a1_1 : Int) (r : Bool) (w : World) (h : laws_eqCell.f a0_0 a0_1 a1_0 a1_1 = some r) :
  Calls Tryz.prog 43 #[.agg #[.int .i64 a0_0, .int .i64 a0_1], .agg #[.int .i64 a1_0, .int .i64 a1_1]] w fun e w' => e = .returned (.bool r) ∧ Below w.heap.size w w' := by
 have hu44 := Tryz.underlying44
 have HB := am (Below.refl w.heap.size w)
 have H : (if a0_0 = a1_0 then (if a0_1 = a1_1 then (some true) else (some false)) else (some false)) = some r := h
 clear h
 by_cases c3 : a0_0 = a1_0
 rotate_left
 ·rw [if_neg c3] at H
  have c3b0 : (a0_0 == a1_0) = false := beq_eq_false_iff_ne.mpr c3
  have c3b1 : (a0_0 != a1_0) = true := bne_iff_ne.mpr c3
  obtain rfl := oi H
  go_enter Tryz.func43, Tryz.ntmps43
  go_wp2_with (first | ((with_reducible refine gate_dst (N := 2) rfl ?_); refine box_event ?hg (N := 2) ?hd (cs := #[.int .i64 a0_0, .int .i64 a0_1]) (t := 44) ?hr ?_; (case hd => rfl); (case hg => rfl); (case hr => first | (go_simp; done) | (go_simp; rfl)); intro gb441 hg w15 hbox hb; have n0_ := am (Bb6 zB hb); have n1_ := am (hbox); have n2_ := am ((by rw [hg]; exact (Bb5 zB) : w.heap.size ≤ gb441)); have n3_ := n2_; clear HB; have HB := n0_; have BK441 := n1_; have GW441 := n2_; have GE441 := n3_; clear n0_ n1_ n2_ n3_; clear hb hbox hg) | ((with_reducible refine gate_dst (N := 3) rfl ?_); refine box_event ?hg (N := 3) ?hd (cs := #[.int .i64 a1_0, .int .i64 a1_1]) (t := 44) ?hr ?_; (case hd => rfl); (case hg => rfl); (case hr => first | (go_simp; done) | (go_simp; rfl)); intro gb442 hg w16 hbox hb; have n0_ := am (Bk4 (g := gb441) (o := .cells #[.int .i64 a0_0, .int .i64 a0_1] 44 (0, 0)) (zK BK441) hb); have n1_ := am (Bb6 (by repeat (first | (with_reducible first | exact HB.out | apply Bb1 | apply Bb2 | apply Bb3 | refine Bb4 ?_ GE441.out) | exact HB.out)) hb); have n2_ := am (hbox); have n3_ := am ((by rw [hg]; exact (Bb5 (by repeat (first | (with_reducible first | exact HB.out | apply Bb1 | apply Bb2 | apply Bb3 | refine Bb4 ?_ GE441.out) | exact HB.out))) : w.heap.size ≤ gb442)); have n4_ := n3_; have n5_ := am ((by rw [hg]; exact nl (Bk5 (g := gb441) (o := .cells #[.int .i64 a0_0, .int .i64 a0_1] 44 (0, 0)) (zK BK441)) : gb441 ≠ gb442)); have n6_ := am ((by rw [hg]; exact ng (Bk5 (g := gb441) (o := .cells #[.int .i64 a0_0, .int .i64 a0_1] 44 (0, 0)) (zK BK441)) : gb442 ≠ gb441)); clear BK441; clear HB; have BK441 := n0_; have HB := n1_; have BK442 := n2_; have GW442 := n3_; have GE442 := n4_; have NB441_442 := n5_; have NB442_441 := n6_; clear n0_ n1_ n2_ n3_ n4_ n5_ n6_; clear hb hbox hg; have hnb17 := NB441_442.out; have hnc17 := NB442_441.out; have hcz18_0 : w16.cell? ⟨gb441, 0, none⟩ = some (.int .i64 a0_0) := (kc BK441.out 0).trans rfl; have hcz18_1 : w16.cell? ⟨gb441, 1, none⟩ = some (.int .i64 a0_1) := (kc BK441.out 1).trans rfl; have hfz18_0 := kf BK441.out 0; have hfz18_1 := kf BK441.out 1; have hcz19_0 : w16.cell? ⟨gb442, 0, none⟩ = some (.int .i64 a1_0) := (kc BK442.out 0).trans rfl; have hcz19_1 : w16.cell? ⟨gb442, 1, none⟩ = some (.int .i64 a1_1) := (kc BK442.out 1).trans rfl; have hfz19_0 := kf BK442.out 0; have hfz19_1 := kf BK442.out 1))
  go_ret
  exact ⟨zE, by repeat (first | (with_reducible first | exact HB.out | apply Bb1 | apply Bb2 | apply Bb3 | refine Bb4 ?_ GE441.out | refine Bb4 ?_ GE442.out) | exact HB.out)⟩
 rw [if_pos c3] at H
 have c3b0 : (a0_0 == a1_0) = true := beq_iff_eq.mpr c3
 have c3b1 : (a0_0 != a1_0) = false := bne_eq_false_iff_eq.mpr c3
 clear c3
 by_cases c4 : a0_1 = a1_1
 ·rw [if_pos c4] at H
  have c4b0 : (a0_1 == a1_1) = true := beq_iff_eq.mpr c4
  have c4b1 : (a0_1 != a1_1) = false := bne_eq_false_iff_eq.mpr c4
  clear c4
  obtain rfl := oi H
  go_enter Tryz.func43, Tryz.ntmps43
  go_wp2_with (first | ((with_reducible refine gate_dst (N := 2) rfl ?_); refine box_event ?hg (N := 2) ?hd (cs := #[.int .i64 a0_0, .int .i64 a0_1]) (t := 44) ?hr ?_; (case hd => rfl); (case hg => rfl); (case hr => first | (go_simp; done) | (go_simp; rfl)); intro gb441 hg w5 hbox hb; have n0_ := am (Bb6 zB hb); have n1_ := am (hbox); have n2_ := am ((by rw [hg]; exact (Bb5 zB) : w.heap.size ≤ gb441)); have n3_ := n2_; clear HB; have HB := n0_; have BK441 := n1_; have GW441 := n2_; have GE441 := n3_; clear n0_ n1_ n2_ n3_; clear hb hbox hg) | ((with_reducible refine gate_dst (N := 3) rfl ?_); refine box_event ?hg (N := 3) ?hd (cs := #[.int .i64 a1_0, .int .i64 a1_1]) (t := 44) ?hr ?_; (case hd => rfl); (case hg => rfl); (case hr => first | (go_simp; done) | (go_simp; rfl)); intro gb442 hg w6 hbox hb; have n0_ := am (Bk4 (g := gb441) (o := .cells #[.int .i64 a0_0, .int .i64 a0_1] 44 (0, 0)) (zK BK441) hb); have n1_ := am (Bb6 (by repeat (first | (with_reducible first | exact HB.out | apply Bb1 | apply Bb2 | apply Bb3 | refine Bb4 ?_ GE441.out) | exact HB.out)) hb); have n2_ := am (hbox); have n3_ := am ((by rw [hg]; exact (Bb5 (by repeat (first | (with_reducible first | exact HB.out | apply Bb1 | apply Bb2 | apply Bb3 | refine Bb4 ?_ GE441.out) | exact HB.out))) : w.heap.size ≤ gb442)); have n4_ := n3_; have n5_ := am ((by rw [hg]; exact nl (Bk5 (g := gb441) (o := .cells #[.int .i64 a0_0, .int .i64 a0_1] 44 (0, 0)) (zK BK441)) : gb441 ≠ gb442)); have n6_ := am ((by rw [hg]; exact ng (Bk5 (g := gb441) (o := .cells #[.int .i64 a0_0, .int .i64 a0_1] 44 (0, 0)) (zK BK441)) : gb442 ≠ gb441)); clear BK441; clear HB; have BK441 := n0_; have HB := n1_; have BK442 := n2_; have GW442 := n3_; have GE442 := n4_; have NB441_442 := n5_; have NB442_441 := n6_; clear n0_ n1_ n2_ n3_ n4_ n5_ n6_; clear hb hbox hg; have hnb7 := NB441_442.out; have hnc7 := NB442_441.out; have hcz8_0 : w6.cell? ⟨gb441, 0, none⟩ = some (.int .i64 a0_0) := (kc BK441.out 0).trans rfl; have hcz8_1 : w6.cell? ⟨gb441, 1, none⟩ = some (.int .i64 a0_1) := (kc BK441.out 1).trans rfl; have hfz8_0 := kf BK441.out 0; have hfz8_1 := kf BK441.out 1; have hcz9_0 : w6.cell? ⟨gb442, 0, none⟩ = some (.int .i64 a1_0) := (kc BK442.out 0).trans rfl; have hcz9_1 : w6.cell? ⟨gb442, 1, none⟩ = some (.int .i64 a1_1) := (kc BK442.out 1).trans rfl; have hfz9_0 := kf BK442.out 0; have hfz9_1 := kf BK442.out 1))
  go_ret
  exact ⟨zE, by repeat (first | (with_reducible first | exact HB.out | apply Bb1 | apply Bb2 | apply Bb3 | refine Bb4 ?_ GE441.out | refine Bb4 ?_ GE442.out) | exact HB.out)⟩
 rw [if_neg c4] at H
 have c4b0 : (a0_1 == a1_1) = false := beq_eq_false_iff_ne.mpr c4
 have c4b1 : (a0_1 != a1_1) = true := bne_iff_ne.mpr c4
 obtain rfl := oi H
 go_enter Tryz.func43, Tryz.ntmps43
 go_wp2_with (first | ((with_reducible refine gate_dst (N := 2) rfl ?_); refine box_event ?hg (N := 2) ?hd (cs := #[.int .i64 a0_0, .int .i64 a0_1]) (t := 44) ?hr ?_; (case hd => rfl); (case hg => rfl); (case hr => first | (go_simp; done) | (go_simp; rfl)); intro gb441 hg w10 hbox hb; have n0_ := am (Bb6 zB hb); have n1_ := am (hbox); have n2_ := am ((by rw [hg]; exact (Bb5 zB) : w.heap.size ≤ gb441)); have n3_ := n2_; clear HB; have HB := n0_; have BK441 := n1_; have GW441 := n2_; have GE441 := n3_; clear n0_ n1_ n2_ n3_; clear hb hbox hg) | ((with_reducible refine gate_dst (N := 3) rfl ?_); refine box_event ?hg (N := 3) ?hd (cs := #[.int .i64 a1_0, .int .i64 a1_1]) (t := 44) ?hr ?_; (case hd => rfl); (case hg => rfl); (case hr => first | (go_simp; done) | (go_simp; rfl)); intro gb442 hg w11 hbox hb; have n0_ := am (Bk4 (g := gb441) (o := .cells #[.int .i64 a0_0, .int .i64 a0_1] 44 (0, 0)) (zK BK441) hb); have n1_ := am (Bb6 (by repeat (first | (with_reducible first | exact HB.out | apply Bb1 | apply Bb2 | apply Bb3 | refine Bb4 ?_ GE441.out) | exact HB.out)) hb); have n2_ := am (hbox); have n3_ := am ((by rw [hg]; exact (Bb5 (by repeat (first | (with_reducible first | exact HB.out | apply Bb1 | apply Bb2 | apply Bb3 | refine Bb4 ?_ GE441.out) | exact HB.out))) : w.heap.size ≤ gb442)); have n4_ := n3_; have n5_ := am ((by rw [hg]; exact nl (Bk5 (g := gb441) (o := .cells #[.int .i64 a0_0, .int .i64 a0_1] 44 (0, 0)) (zK BK441)) : gb441 ≠ gb442)); have n6_ := am ((by rw [hg]; exact ng (Bk5 (g := gb441) (o := .cells #[.int .i64 a0_0, .int .i64 a0_1] 44 (0, 0)) (zK BK441)) : gb442 ≠ gb441)); clear BK441; clear HB; have BK441 := n0_; have HB := n1_; have BK442 := n2_; have GW442 := n3_; have GE442 := n4_; have NB441_442 := n5_; have NB442_441 := n6_; clear n0_ n1_ n2_ n3_ n4_ n5_ n6_; clear hb hbox hg; have hnb12 := NB441_442.out; have hnc12 := NB442_441.out; have hcz13_0 : w11.cell? ⟨gb441, 0, none⟩ = some (.int .i64 a0_0) := (kc BK441.out 0).trans rfl; have hcz13_1 : w11.cell? ⟨gb441, 1, none⟩ = some (.int .i64 a0_1) := (kc BK441.out 1).trans rfl; have hfz13_0 := kf BK441.out 0; have hfz13_1 := kf BK441.out 1; have hcz14_0 : w11.cell? ⟨gb442, 0, none⟩ = some (.int .i64 a1_0) := (kc BK442.out 0).trans rfl; have hcz14_1 : w11.cell? ⟨gb442, 1, none⟩ = some (.int .i64 a1_1) := (kc BK442.out 1).trans rfl; have hfz14_0 := kf BK442.out 0; have hfz14_1 := kf BK442.out 1))
 go_ret
 exact ⟨zE, by repeat (first | (with_reducible first | exact HB.out | apply Bb1 | apply Bb2 | apply Bb3 | refine Bb4 ?_ GE441.out | refine Bb4 ?_ GE442.out) | exact HB.out)⟩

/-! ### laws_eqCellS: function 21 -/
abbrev laws_eqCellS.m0 : Array Bool := #[z',z',z',z',z',z',z',z',z',z']
abbrev laws_eqCellS.m1 : Array Bool := #[o',z',z',z',z',z',z',z',z',z']
abbrev laws_eqCellS.m2 : Array Bool := #[o',o',z',z',z',z',z',z',z',z']
abbrev laws_eqCellS.m3 : Array Bool := #[o',o',o',z',z',z',z',z',z',z']
abbrev laws_eqCellS.m4 : Array Bool := #[o',o',o',z',o',z',z',z',z',z']
abbrev laws_eqCellS.m5 : Array Bool := #[o',o',o',z',o',o',z',z',z',z']
abbrev laws_eqCellS.m6 : Array Bool := #[o',o',o',z',o',o',o',z',z',z']
abbrev laws_eqCellS.m7 : Array Bool := #[o',o',o',o',o',o',o',z',z',z']
abbrev laws_eqCellS.m8 : Array Bool := #[o',o',o',o',o',o',o',o',z',z']
abbrev laws_eqCellS.m9 : Array Bool := #[o',o',o',o',o',o',o',o',o',z']
abbrev laws_eqCellS.m10 : Array Bool := #[o',o',o',o',o',o',o',o',o',o']
def laws_eqCellS.l0 : Nat → List (S44) → List (S44) → Int → Option (Bool)
 | 0, _, _, _ => none
 | k + 1, x0, x1, x5 => if x5 < (x0.length : Int) then (if 0 ≤ x5 then (if x5 < (x1.length : Int) then ((laws_eqCell.f ((rd_T44 x0 x5).f0) ((rd_T44 x0 x5).f1) ((rd_T44 x1 x5).f0) ((rd_T44 x1 x5).f1)).bind fun t445 => (if t445 = true then (laws_eqCellS.l0 k x0 x1 (wrap64 (x5 + 1))) else (some false))) else (none)) else (none)) else (some true)
def laws_eqCellS.f (k : Nat) (l0 : List (S44)) (l1 : List (S44)) : Option (Bool) := if (l0.length : Int) = (l1.length : Int) then (laws_eqCellS.l0 k l0 l1 0) else (some false)
theorem laws_eqCellS.mono_l : ∀ k, (∀ y0 y1 y2, LeO (laws_eqCellS.l0 k y0 y1 y2) (laws_eqCellS.l0 (k + 1) y0 y1 y2))
 | 0 => fun _ _ _ r h => by simp [laws_eqCellS.l0] at h
 | k + 1 => by
  have ih0 := laws_eqCellS.mono_l k
  ·intro y0 y1 y2
   unfold laws_eqCellS.l0
   with_reducible repeat' first | exact ih0 _ _ _ | exact LeO.refl _ | exact LeO.none _ | refine LeO.ite ?_ ?_ | refine LeO.bind ?_ (fun _ => ?_)
theorem laws_eqCellS.mono : ∀ a0 a1 k, LeO (laws_eqCellS.f k a0 a1) (laws_eqCellS.f (k + 1) a0 a1) := by
 intro a0 a1 k
 have ih0 := laws_eqCellS.mono_l k
 unfold laws_eqCellS.f
 with_reducible repeat' first | exact ih0 _ _ _ | exact LeO.refl _ | exact LeO.none _ | refine LeO.ite ?_ ?_ | refine LeO.bind ?_ (fun _ => ?_)
def laws_eqCellS.T6 : Bool × List (List Nat × List Nat) := (true, [([], []), ([], []), ([0, 1], [0, 1]), ([2], [2]), ([], []), ([], []), ([4, 5], [4, 5]), ([6], [6]), ([3, 7], [3, 7]), ([8], [8])])
def laws_eqCellS.B6 : List Nat := [0, 0, 3, 7, 0, 0, 48, 112, 255, 511]
theorem laws_eqCellS.tab6 : rtab .any (opsOf Tryz.f21 6) = laws_eqCellS.T6 := by kernel_rfl
theorem laws_eqCellS.bits6 : waitsOk laws_eqCellS.T6.2 laws_eqCellS.B6 = true := by kernel_rfl
set_option maxHeartbeats 8000000 in
set_option maxRecDepth 100000 in
theorem laws_eqCellS.calls (k : Nat) (A0 : Option Addr) (c0 : Nat) (l0 : List (S44)) (A1 : Option Addr) (c1 : Nat) (l1 : List (S44)) (r : Bool) (w : World) (hr0 : Kd.C k44 w A0 l0.length l0) (hc0 : l0.length ≤ c0) (hr1 : Kd.C k44 w A1 l1.length l1) (hc1 : l1.length ≤ c1) (h : laws_eqCellS.f k l0 l1 = some r) :
  Calls Tryz.prog 21 #[.slice A0 l0.length c0, .slice A1 l1.length c1] w fun e w' => e = .returned (.bool r) ∧ Below w.heap.size w w' := by
 have hu44 := Tryz.underlying44
 have HR0 := am hr0
 have HC0 := am hc0
 clear hr0 hc0
 have HR1 := am hr1
 have HC1 := am hc1
 clear hr1 hc1
 have HB := am (Below.refl w.heap.size w)
 have H : (if (l0.length : Int) = (l1.length : Int) then (laws_eqCellS.l0 k l0 l1 0) else (some false)) = some r := h
 clear h
 by_cases c3 : (l0.length : Int) = (l1.length : Int)
 rotate_left
 ·rw [if_neg c3] at H
  have c3b0 : ((l0.length : Int) == (l1.length : Int)) = false := beq_eq_false_iff_ne.mpr c3
  have c3b1 : ((l0.length : Int) != (l1.length : Int)) = true := bne_iff_ne.mpr c3
  have c3b2 : (l0.length == l1.length) = false := by first | simpa using c3 | (simp at c3 ⊢; omega)
  obtain rfl := oi H
  go_enter Tryz.func21, Tryz.ntmps21
  go_wp2
  go_ret
  exact ⟨zE, zB⟩
 rw [if_pos c3] at H
 have c3b0 : ((l0.length : Int) == (l1.length : Int)) = true := beq_iff_eq.mpr c3
 have c3b1 : ((l0.length : Int) != (l1.length : Int)) = false := bne_eq_false_iff_eq.mpr c3
 have c3b2 : (l0.length == l1.length) = true := by first | simpa using c3 | (simp at c3 ⊢; omega)
 clear c3
 have H' := am H
 clear H
 go_enter Tryz.func21, Tryz.ntmps21
 go_wp2
 go_loopg [5] k (fun kq v5 w' => ∃ (x5_1 : Int), v5 = .int .i64 x5_1 ∧ Aside0 (laws_eqCellS.l0 kq l0 l1 x5_1 = some r) ∧ Aside0 (kq ≤ k) ∧ Aside0 (Below w.heap.size w w'))
 case atStart => exact ⟨(0), zS, H', ⟨Nat.le_refl _⟩, ⟨zB⟩⟩
 case round =>
  clear H'
  try clear c1
  try clear c2
  try clear p2
  try clear c3
  try clear c3b0
  try clear c3b1
  try clear c3b2
  obtain ⟨x5_1, rfl, HA, HK1, HB⟩ := hrel
  cases gk with
  | zero => exact absurd HA.out (by simp [laws_eqCellS.l0])
  | succ k1 =>
   have H := HA.out
   clear HA
   simp only [laws_eqCellS.l0] at H
   by_cases c4 : x5_1 < (l0.length : Int)
   rotate_left
   ·rw [if_neg c4] at H
    have c4b0 : decide (x5_1 < (l0.length : Int)) = false := decide_eq_false c4
    clear c4
    obtain rfl := oi H
    go_wp2
    go_ret
    exact ⟨zE, zB⟩
   rw [if_pos c4] at H
   have c4b0 : decide (x5_1 < (l0.length : Int)) = true := decide_eq_true c4
   clear c4
   by_cases c5 : 0 ≤ x5_1
   rotate_left
   ·rw [if_neg c5] at H
    exact absurd H (by simp)
   rw [if_pos c5] at H
   have c5b0 : decide (0 ≤ x5_1) = true := decide_eq_true c5
   clear c5
   by_cases c6 : x5_1 < (l1.length : Int)
   rotate_left
   ·rw [if_neg c6] at H
    exact absurd H (by simp)
   rw [if_pos c6] at H
   have c6b0 : decide (x5_1 < (l1.length : Int)) = true := decide_eq_true c6
   clear c6
   replace H := ob H
   obtain ⟨t445, A70, H⟩ := H
   (try dsimp only at H)
   have A7 := am A70
   clear A70
   by_cases c8 : t445 = true
   rotate_left
   ·replace c8 := ef c8
    subst c8
    have H1 : (some false) = some r := by first | (rw [if_neg (show ¬ (false = true) by decide)] at H; exact H) | rfl
    clear H
    have H := H1
    clear H1
    obtain rfl := oi H
    try go_wp2
    have n0_ := am (Bb3 HB.out)
    clear HB
    have HB := n0_
    clear n0_
    have p443 : 0 ≤ (x5_1 : Int) := zD
    have q443 : x5_1 < (l0.length : Int) := zD
    obtain ⟨ad443, e443, hx443_0, hx443_1⟩ := at_T44 HR0.out x5_1 p443 q443
    have hw443_1 := hx443_1
    have hw443_0 := hx443_0
    cases e443
    replace hx443_0 := pc HB.out hx443_0
    replace hx443_1 := pc HB.out hx443_1
    replace p443 := eq_true p443
    replace q443 := eq_true q443
    have p444 : 0 ≤ (x5_1 : Int) := zD
    have q444 : x5_1 < (l1.length : Int) := zD
    obtain ⟨ad444, e444, hx444_0, hx444_1⟩ := at_T44 HR1.out x5_1 p444 q444
    have hw444_1 := hx444_1
    have hw444_0 := hx444_0
    cases e444
    replace hx444_0 := pc HB.out hx444_0
    replace hx444_1 := pc HB.out hx444_1
    replace p444 := eq_true p444
    replace q444 := eq_true q444
    refine start_ (n := 10) (S := fun w' => w'.cell? (ad443.add ((x5_1).toNat * 2)) = some (.int .i64 ((rd_T44 l0 x5_1).f0)) ∧ w'.cell? ⟨(ad443.add ((x5_1).toNat * 2)).block, (ad443.add ((x5_1).toNat * 2)).off + 1, none⟩ = some (.int .i64 ((rd_T44 l0 x5_1).f1)) ∧ w'.cell? (ad444.add ((x5_1).toNat * 2)) = some (.int .i64 ((rd_T44 l1 x5_1).f0)) ∧ w'.cell? ⟨(ad444.add ((x5_1).toNat * 2)).block, (ad444.add ((x5_1).toNat * 2)).off + 1, none⟩ = some (.int .i64 ((rd_T44 l1 x5_1).f1))) (ds := []) laws_eqCellS.m0 (by kernel_rfl) rfl rfl ⟨(pc HB.out hw443_0), (pc HB.out hw443_1), (pc HB.out hw444_0), (pc HB.out hw444_1)⟩ (fun hHeld => ?_); refine with_tabW laws_eqCellS.tab6 laws_eqCellS.bits6 (fun HT_ HW_ => ?_)
    generalize wr.drew = w11 at HB hx443_0 hx443_1 hx444_0 hx444_1 hHeld ⊢
    refine pure_ (i := 0) (N := some 17) (v := ?_) (a' := ?_) laws_eqCellS.m1 rfl rfl zA (fun _ _ _ h => h) (Or.inl ⟨by rfl, ?_⟩) ?_ ?_
    rotate_left
    ·intro w'
     go_simp
     rfl
    rotate_left
    ·exact zP
    refine pure_ (i := 1) (N := some 18) (v := ?_) (a' := ?_) laws_eqCellS.m2 rfl rfl zA (fun _ _ _ h => h) (Or.inl ⟨by rfl, ?_⟩) ?_ ?_
    rotate_left
    ·intro w'
     go_simp
     rfl
    rotate_left
    ·exact zP
    refine pure_ (i := 2) (N := some 19) (v := ?_) (a' := ?_) laws_eqCellS.m3 rfl rfl zA (fun _ _ _ h => h) (Or.inl ⟨by rfl, ?_⟩) ?_ ?_
    rotate_left
    ·intro w'
     go_simp
     rfl
    rotate_left
    ·exact zP
    refine pure_ (i := 4) (N := some 21) (v := ?_) (a' := ?_) laws_eqCellS.m4 rfl rfl zA (fun _ _ _ h => h) (Or.inl ⟨by rfl, ?_⟩) ?_ ?_
    rotate_left
    ·intro w'
     go_simp
     rfl
    rotate_left
    ·exact zP
    refine pure_ (i := 5) (N := some 22) (v := ?_) (a' := ?_) laws_eqCellS.m5 rfl rfl zA (fun _ _ _ h => h) (Or.inl ⟨by rfl, ?_⟩) ?_ ?_
    rotate_left
    ·intro w'
     go_simp
     rfl
    rotate_left
    ·exact zP
    refine pure_ (i := 6) (N := some 23) (v := ?_) (a' := ?_) laws_eqCellS.m6 rfl rfl zA (fun _ _ _ h => h) (Or.inl ⟨by rfl, ?_⟩) ?_ ?_
    rotate_left
    ·intro w'
     go_simp
     rfl
    rotate_left
    ·exact zP
    refine take_ (i := 3) (N := some 20) (v := ?_) (a' := ?_) laws_eqCellS.m7 rfl rfl (take_ofW HT_.out HW_.out (by kernel_rfl)) (fun _ _ _ h => h) (Or.inl ⟨by rfl, ?_⟩) hHeld ?_ ?_
    rotate_left
    ·rintro w' ⟨s0, s1, s2, s3⟩
     go_simp
     rfl
    rotate_left
    ·exact zP
    refine take_ (i := 7) (N := some 24) (v := ?_) (a' := ?_) laws_eqCellS.m8 rfl rfl (take_ofW HT_.out HW_.out (by kernel_rfl)) (fun _ _ _ h => h) (Or.inl ⟨by rfl, ?_⟩) hHeld ?_ ?_
    rotate_left
    ·rintro w' ⟨s0, s1, s2, s3⟩
     go_simp
     rfl
    rotate_left
    ·exact zP
    refine one_ (i := 8) (N := some 25) laws_eqCellS.m9 rfl rfl (one_of HT_.out (by kernel_rfl)) (by decide) (fun K hK => ?_)
    refine goes_ Tryz.func43 (by kernel_rfl) rfl #[.agg #[.int .i64 ((rd_T44 l0 x5_1).f0), .int .i64 ((rd_T44 l0 x5_1).f1)], .agg #[.int .i64 ((rd_T44 l1 x5_1).f0), .int .i64 ((rd_T44 l1 x5_1).f1)]] (by rfl) rfl rfl zL ?_
    with_reducible refine (laws_eqCell.calls ((rd_T44 l0 x5_1).f0) ((rd_T44 l0 x5_1).f1) ((rd_T44 l1 x5_1).f0) ((rd_T44 l1 x5_1).f1) false _ A7.out).mono ?_
    rintro e w12 ⟨rfl, hb⟩
    refine ⟨_, rfl, ?_⟩
    have n0_ := am (Bb6 zB hb)
    clear HB
    have HB := n0_
    clear n0_
    (try clear hb)
    (try clear hb2)
    (try clear hk)
    (try clear hi)
    refine hK.out _ _ ⟨(pc HB.out hw443_0), (pc HB.out hw443_1), (pc HB.out hw444_0), (pc HB.out hw444_1)⟩ (fun hHeld => ?_)
    clear hK K
    refine norm_ (a' := ?_) ?_ ?_
    rotate_left
    ·show Act.put _ (some 25) _ = _
     simp only [Act.put, sa, i64_w, i32_w]
     rfl
    refine pure_ (i := 9) (N := some 26) (v := ?_) (a' := ?_) laws_eqCellS.m10 rfl rfl zA (fun _ _ _ h => h) (Or.inl ⟨by rfl, ?_⟩) ?_ ?_
    rotate_left
    ·intro w'
     go_simp
     rfl
    rotate_left
    ·exact zP
    refine done_ (done_of HT_.out (by kernel_rfl)) ?_
    try go_wp2
    go_ret
    exact ⟨zE, zB⟩
   subst c8
   have H1 : (laws_eqCellS.l0 k1 l0 l1 (wrap64 (x5_1 + 1))) = some r := by first | (rw [if_pos rfl] at H; exact H) | rfl
   clear H
   have H := H1
   clear H1
   have H' := am H
   clear H
   try go_wp2
   have n0_ := am (Bb3 HB.out)
   clear HB
   have HB := n0_
   clear n0_
   have p443 : 0 ≤ (x5_1 : Int) := zD
   have q443 : x5_1 < (l0.length : Int) := zD
   obtain ⟨ad443, e443, hx443_0, hx443_1⟩ := at_T44 HR0.out x5_1 p443 q443
   have hw443_1 := hx443_1
   have hw443_0 := hx443_0
   cases e443
   replace hx443_0 := pc HB.out hx443_0
   replace hx443_1 := pc HB.out hx443_1
   replace p443 := eq_true p443
   replace q443 := eq_true q443
   have p444 : 0 ≤ (x5_1 : Int) := zD
   have q444 : x5_1 < (l1.length : Int) := zD
   obtain ⟨ad444, e444, hx444_0, hx444_1⟩ := at_T44 HR1.out x5_1 p444 q444
   have hw444_1 := hx444_1
   have hw444_0 := hx444_0
   cases e444
   replace hx444_0 := pc HB.out hx444_0
   replace hx444_1 := pc HB.out hx444_1
   replace p444 := eq_true p444
   replace q444 := eq_true q444
   refine start_ (n := 10) (S := fun w' => w'.cell? (ad443.add ((x5_1).toNat * 2)) = some (.int .i64 ((rd_T44 l0 x5_1).f0)) ∧ w'.cell? ⟨(ad443.add ((x5_1).toNat * 2)).block, (ad443.add ((x5_1).toNat * 2)).off + 1, none⟩ = some (.int .i64 ((rd_T44 l0 x5_1).f1)) ∧ w'.cell? (ad444.add ((x5_1).toNat * 2)) = some (.int .i64 ((rd_T44 l1 x5_1).f0)) ∧ w'.cell? ⟨(ad444.add ((x5_1).toNat * 2)).block, (ad444.add ((x5_1).toNat * 2)).off + 1, none⟩ = some (.int .i64 ((rd_T44 l1 x5_1).f1))) (ds := []) laws_eqCellS.m0 (by kernel_rfl) rfl rfl ⟨(pc HB.out hw443_0), (pc HB.out hw443_1), (pc HB.out hw444_0), (pc HB.out hw444_1)⟩ (fun hHeld => ?_); refine with_tabW laws_eqCellS.tab6 laws_eqCellS.bits6 (fun HT_ HW_ => ?_)
   generalize wr.drew = w9 at HB hx443_0 hx443_1 hx444_0 hx444_1 hHeld ⊢
   refine pure_ (i := 0) (N := some 17) (v := ?_) (a' := ?_) laws_eqCellS.m1 rfl rfl zA (fun _ _ _ h => h) (Or.inl ⟨by rfl, ?_⟩) ?_ ?_
   rotate_left
   ·intro w'
    go_simp
    rfl
   rotate_left
   ·exact zP
   refine pure_ (i := 1) (N := some 18) (v := ?_) (a' := ?_) laws_eqCellS.m2 rfl rfl zA (fun _ _ _ h => h) (Or.inl ⟨by rfl, ?_⟩) ?_ ?_
   rotate_left
   ·intro w'
    go_simp
    rfl
   rotate_left
   ·exact zP
   refine pure_ (i := 2) (N := some 19) (v := ?_) (a' := ?_) laws_eqCellS.m3 rfl rfl zA (fun _ _ _ h => h) (Or.inl ⟨by rfl, ?_⟩) ?_ ?_
   rotate_left
   ·intro w'
    go_simp
    rfl
   rotate_left
   ·exact zP
   refine pure_ (i := 4) (N := some 21) (v := ?_) (a' := ?_) laws_eqCellS.m4 rfl rfl zA (fun _ _ _ h => h) (Or.inl ⟨by rfl, ?_⟩) ?_ ?_
   rotate_left
   ·intro w'
    go_simp
    rfl
   rotate_left
   ·exact zP
   refine pure_ (i := 5) (N := some 22) (v := ?_) (a' := ?_) laws_eqCellS.m5 rfl rfl zA (fun _ _ _ h => h) (Or.inl ⟨by rfl, ?_⟩) ?_ ?_
   rotate_left
   ·intro w'
    go_simp
    rfl
   rotate_left
   ·exact zP
   refine pure_ (i := 6) (N := some 23) (v := ?_) (a' := ?_) laws_eqCellS.m6 rfl rfl zA (fun _ _ _ h => h) (Or.inl ⟨by rfl, ?_⟩) ?_ ?_
   rotate_left
   ·intro w'
    go_simp
    rfl
   rotate_left
   ·exact zP
   refine take_ (i := 3) (N := some 20) (v := ?_) (a' := ?_) laws_eqCellS.m7 rfl rfl (take_ofW HT_.out HW_.out (by kernel_rfl)) (fun _ _ _ h => h) (Or.inl ⟨by rfl, ?_⟩) hHeld ?_ ?_
   rotate_left
   ·rintro w' ⟨s0, s1, s2, s3⟩
    go_simp
    rfl
   rotate_left
   ·exact zP
   refine take_ (i := 7) (N := some 24) (v := ?_) (a' := ?_) laws_eqCellS.m8 rfl rfl (take_ofW HT_.out HW_.out (by kernel_rfl)) (fun _ _ _ h => h) (Or.inl ⟨by rfl, ?_⟩) hHeld ?_ ?_
   rotate_left
   ·rintro w' ⟨s0, s1, s2, s3⟩
    go_simp
    rfl
   rotate_left
   ·exact zP
   refine one_ (i := 8) (N := some 25) laws_eqCellS.m9 rfl rfl (one_of HT_.out (by kernel_rfl)) (by decide) (fun K hK => ?_)
   refine goes_ Tryz.func43 (by kernel_rfl) rfl #[.agg #[.int .i64 ((rd_T44 l0 x5_1).f0), .int .i64 ((rd_T44 l0 x5_1).f1)], .agg #[.int .i64 ((rd_T44 l1 x5_1).f0), .int .i64 ((rd_T44 l1 x5_1).f1)]] (by rfl) rfl rfl zL ?_
   with_reducible refine (laws_eqCell.calls ((rd_T44 l0 x5_1).f0) ((rd_T44 l0 x5_1).f1) ((rd_T44 l1 x5_1).f0) ((rd_T44 l1 x5_1).f1) true _ A7.out).mono ?_
   rintro e w10 ⟨rfl, hb⟩
   refine ⟨_, rfl, ?_⟩
   have n0_ := am (Bb6 zB hb)
   clear HB
   have HB := n0_
   clear n0_
   (try clear hb)
   (try clear hb2)
   (try clear hk)
   (try clear hi)
   refine hK.out _ _ ⟨(pc HB.out hw443_0), (pc HB.out hw443_1), (pc HB.out hw444_0), (pc HB.out hw444_1)⟩ (fun hHeld => ?_)
   clear hK K
   refine norm_ (a' := ?_) ?_ ?_
   rotate_left
   ·show Act.put _ (some 25) _ = _
    simp only [Act.put, sa, i64_w, i32_w]
    rfl
   refine pure_ (i := 9) (N := some 26) (v := ?_) (a' := ?_) laws_eqCellS.m10 rfl rfl zA (fun _ _ _ h => h) (Or.inl ⟨by rfl, ?_⟩) ?_ ?_
   rotate_left
   ·intro w'
    go_simp
    rfl
   rotate_left
   ·exact zP
   refine done_ (done_of HT_.out (by kernel_rfl)) ?_
   try go_wp2
   go_roundg k1
   case measure => have := HK1.out; omega
   case rel => exact ⟨(wrap64 (x5_1 + 1)), zS, H', ⟨by have := HK1.out; omega⟩, ⟨zB⟩⟩

end Go.Proofs.YtbbhohaenijaoaaGreat.Q
