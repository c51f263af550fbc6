/- Written by a program of this session (wip/tools/pp.py) out of the translation, with the kit's printer. -/
import Derived.Test.YtlkgmlpcianopaaQ0
import Derived.Test.YtlkgmlpcianopaaQ2
import Derived.Test.YtlkgmlpcianopaaQ15
import Derived.Test.YtlkgmlpcianopaaQ16
import Derived.Test.YtlkgmlpcianopaaQ23
import Derived.Test.YtlkgmlpcianopaaQ24
import Derived.Test.YtlkgmlpcianopaaQ25
namespace Go.Proofs.Ytlkgmlpcianopaa.Q
open Go.RowKit Go.Proofs.YtlkgmlpcianopaaW.PrintWords Go.Proofs.YtlkgmlpcianopaaW.PrintLast Go.Proofs.YtlkgmlpcianopaaW.PrintMore
attribute [local go_sem] max2_int min2_int max_two min_two max_three min_three max_four min_four
set_option linter.unusedVariables false
set_option linter.unusedSimpArgs false

/-! ### laws_FnExactIsCopy: function 3 -/
def laws_FnExactIsCopy.f (k : Nat) (l0_0 : List (S40)) (a0_1 : Int) (a0_2 : Bool) (l1 : List (S40)) : Option (Bool) := (laws_szPiece.f l0_0 a0_1 a0_2 1048576).bind fun t375 => (if t375 < 0 then (some true) else ((laws_szCellS.f l1 t375).bind fun t376 => (if t376 < 0 then (some true) else ((laws_toPiece.f k l0_0 a0_1 a0_2).bind fun bt377 => ((laws_toCellS.f k l1).bind fun t382 => ((spec_IsCopy.f k bt377.1 bt377.2.1 bt377.2.2 t382).bind fun t385 => ((laws_toPiece.f k l0_0 a0_1 a0_2).bind fun bt386 => ((laws_toCellS.f k l1).bind fun t392 => ((impl_IsCopy.f k bt386.1 bt386.2.1 bt386.2.2 t392).bind fun t395 => (if (t395 != t385) = true then (some false) else ((laws_toPiece.f k l0_0 a0_1 a0_2).bind fun bt396 => ((laws_eqPiece.f k bt386.1 bt386.2.1 bt386.2.2 bt396.1 bt396.2.1 bt396.2.2).bind fun t401 => (if t401 = true then ((laws_toCellS.f k l1).bind fun t402 => ((laws_eqCellS.f k t392 t402).bind fun t405 => (if t405 = true then (some true) else (some false)))) else (some false))))))))))))))
theorem laws_FnExactIsCopy.mono : ∀ a0 a1 a2 a3 k, LeO (laws_FnExactIsCopy.f k a0 a1 a2 a3) (laws_FnExactIsCopy.f (k + 1) a0 a1 a2 a3) := by
 intro a0 a1 a2 a3 k
 unfold laws_FnExactIsCopy.f
 repeat' first
   | (with_reducible exact impl_IsCopy.mono _ _ _ _ _)
   | (with_reducible exact laws_eqCellS.mono _ _ _)
   | (with_reducible exact laws_eqPiece.mono _ _ _ _ _ _ _)
   | (with_reducible exact laws_toCellS.mono _ _)
   | (with_reducible exact laws_toPiece.mono _ _ _ _)
   | (with_reducible exact spec_IsCopy.mono _ _ _ _ _)
   | (with_reducible exact LeO.refl _)
   | (with_reducible exact LeO.none _)
   | (with_reducible refine LeO.ite ?_ ?_)
   | (with_reducible refine LeO.bind ?_ (fun _ => ?_))
   | exact impl_IsCopy.mono _ _ _ _ _
   | exact laws_eqCellS.mono _ _ _
   | exact laws_eqPiece.mono _ _ _ _ _ _ _
   | exact laws_toCellS.mono _ _
   | exact laws_toPiece.mono _ _ _ _
   | exact spec_IsCopy.mono _ _ _ _ _
   | exact LeO.none _
   | refine LeO.ite ?_ ?_
   | refine LeO.bind ?_ (fun _ => ?_)
set_option maxHeartbeats 8000000 in
set_option maxRecDepth 100000 in
theorem laws_FnExactIsCopy.calls (k : Nat) (A0_0 : Option Addr) (c0_0 : Nat) (l0_0 : List (S40)) (a0_1 : Int) (a0_2 : Bool) (A1 : Option Addr) (c1 : Nat) (l1 : List (S40)) (w : World) (hr0_0 : Kd.C k40 w A0_0 l0_0.length l0_0) (hc0_0 : l0_0.length ≤ c0_0) (hr1 : Kd.C k40 w A1 l1.length l1) (hc1 : l1.length ≤ c1) (h : laws_FnExactIsCopy.f k l0_0 a0_1 a0_2 l1 = some true) :
  Calls Try.prog 3 #[.agg #[.slice A0_0 l0_0.length c0_0, .int .i64 a0_1, .bool a0_2], .slice A1 l1.length c1] w fun e w' => e = .returned (.bool true) ∧ Below w.heap.size w w' := by
 have hu24 := Try.underlying24
 have hu30 := Try.underlying30
 have HR0_0 := am hr0_0
 have HC0_0 := am hc0_0
 clear hr0_0 hc0_0
 have HR1 := am hr1
 have HC1 := am hc1
 clear hr1 hc1
 have HB := am (Below.refl w.heap.size w)
 have H : ((laws_szPiece.f l0_0 a0_1 a0_2 1048576).bind fun t375 => (if t375 < 0 then (some true) else ((laws_szCellS.f l1 t375).bind fun t376 => (if t376 < 0 then (some true) else ((laws_toPiece.f k l0_0 a0_1 a0_2).bind fun bt377 => ((laws_toCellS.f k l1).bind fun t382 => ((spec_IsCopy.f k bt377.1 bt377.2.1 bt377.2.2 t382).bind fun t385 => ((laws_toPiece.f k l0_0 a0_1 a0_2).bind fun bt386 => ((laws_toCellS.f k l1).bind fun t392 => ((impl_IsCopy.f k bt386.1 bt386.2.1 bt386.2.2 t392).bind fun t395 => (if (t395 != t385) = true then (some false) else ((laws_toPiece.f k l0_0 a0_1 a0_2).bind fun bt396 => ((laws_eqPiece.f k bt386.1 bt386.2.1 bt386.2.2 bt396.1 bt396.2.1 bt396.2.2).bind fun t401 => (if t401 = true then ((laws_toCellS.f k l1).bind fun t402 => ((laws_eqCellS.f k t392 t402).bind fun t405 => (if t405 = true then (some true) else (some false)))) else (some false))))))))))))))) = some true := h
 clear h
 replace H := ob H
 obtain ⟨t375, A30, H⟩ := H
 replace H : (if t375 < 0 then (some true) else ((laws_szCellS.f l1 t375).bind fun t376 => (if t376 < 0 then (some true) else ((laws_toPiece.f k l0_0 a0_1 a0_2).bind fun bt377 => ((laws_toCellS.f k l1).bind fun t382 => ((spec_IsCopy.f k bt377.1 bt377.2.1 bt377.2.2 t382).bind fun t385 => ((laws_toPiece.f k l0_0 a0_1 a0_2).bind fun bt386 => ((laws_toCellS.f k l1).bind fun t392 => ((impl_IsCopy.f k bt386.1 bt386.2.1 bt386.2.2 t392).bind fun t395 => (if (t395 != t385) = true then (some false) else ((laws_toPiece.f k l0_0 a0_1 a0_2).bind fun bt396 => ((laws_eqPiece.f k bt386.1 bt386.2.1 bt386.2.2 bt396.1 bt396.2.1 bt396.2.2).bind fun t401 => (if t401 = true then ((laws_toCellS.f k l1).bind fun t402 => ((laws_eqCellS.f k t392 t402).bind fun t405 => (if t405 = true then (some true) else (some false)))) else (some false)))))))))))))) = some true := H
 have A3 := am A30
 clear A30
 by_cases c4 : t375 < 0
 ·rw [if_pos c4] at H
  have c4b0 : decide (t375 < 0) = true := decide_eq_true c4
  clear c4
  clear H
  go_enter Try.func3, Try.ntmps3
  go_wp2_with (first | ((with_reducible refine gate_dst (N := 2) rfl ?_); refine box_event ?hg (N := 2) ?hd (cs := #[.slice A0_0 l0_0.length c0_0, .int .i64 a0_1, .bool a0_2]) (t := 24) ?hr ?_; (case hd => rfl); (case hg => rfl); (case hr => first | (go_simp; done) | (go_simp; rfl)); intro gb374 hg w5 hbox hb; have n0_ := am (Bb6 (by repeat (first | (with_reducible first | exact HB.out | apply Bb1 | apply Bb2 | apply Bb3) | exact HB.out)) hb); have n1_ := am (hbox); have n2_ := am ((by rw [hg]; exact (Bb5 (by repeat (first | (with_reducible first | exact HB.out | apply Bb1 | apply Bb2 | apply Bb3) | exact HB.out))) : w.heap.size ≤ gb374)); have n3_ := n2_; clear HB; have HB := n0_; have BK374 := n1_; have GW374 := n2_; have GE374 := n3_; clear n0_ n1_ n2_ n3_; clear hb hbox hg; have hcz6_0 : w5.cell? ⟨gb374, 0, none⟩ = some (.slice A0_0 l0_0.length c0_0) := (kc BK374.out 0).trans rfl; have hcz6_1 : w5.cell? ⟨gb374, 1, none⟩ = some (.int .i64 a0_1) := (kc BK374.out 1).trans rfl; have hcz6_2 : w5.cell? ⟨gb374, 2, none⟩ = some (.bool a0_2) := (kc BK374.out 2).trans rfl; have hfz6_0 := kf BK374.out 0; have hfz6_1 := kf BK374.out 1; have hfz6_2 := kf BK374.out 2) | ((with_reducible refine gate_callee (f := 4) rfl ?_); refine goesL_ (some 12) rfl rfl Try.func4 (by kernel_rfl) rfl #[.agg #[.slice A0_0 l0_0.length c0_0, .int .i64 a0_1, .bool a0_2], .int .i64 1048576] rfl (by (try simp only [List.map_toArray, List.map_cons, List.map_nil]); first | done | rfl | (simp only [List.length_drop, List.length_take]; rfl)) ?_; (with_reducible refine (laws_szPiece.calls _ _ l0_0 a0_1 a0_2 1048576 t375 _ ?side1 ?side2 A3.out).mono ?_); (case side1 => repeat (first | exact (Kd.C_below HR0_0.out HB.out) | (with_reducible refine Kd.C_alloc ?_ _) | (with_reducible refine Kd.C_drewN ?_ _) | (with_reducible refine Kd.C_drew ?_))); (case side2 => exact HC0_0.out); rintro e w7 ⟨rfl, hb⟩; refine ⟨_, rfl, ?_⟩; have n0_ := am (Bk4 (g := gb374) (o := .cells #[.slice A0_0 l0_0.length c0_0, .int .i64 a0_1, .bool a0_2] 24 (0, 0)) (by (with_reducible repeat (first | refine Bk2 ?_ _ | refine Bk3 ?_ | refine Bk1 ?_ _)); exact BK374.out) hb); have n1_ := am (Bb6 (by repeat (first | (with_reducible first | exact HB.out | apply Bb1 | apply Bb2 | apply Bb3 | refine Bb4 ?_ GE374.out) | exact HB.out)) hb); clear BK374; clear HB; have BK374 := n0_; have HB := n1_; clear n0_ n1_; (try clear hb); (try clear hb2); (try clear hk); (try clear hi)))
  go_ret
  exact ⟨by first | rfl | (simp [errW_none, errW_some] <;> rfl) | (simp [*, errW_none, errW_some] <;> rfl), by repeat (first | (with_reducible first | exact HB.out | apply Bb1 | apply Bb2 | apply Bb3 | refine Bb4 ?_ GE374.out) | exact HB.out)⟩
 ·rw [if_neg c4] at H
  have c4b0 : decide (t375 < 0) = false := decide_eq_false c4
  clear c4
  replace H := ob H
  obtain ⟨t376, A80, H⟩ := H
  replace H : (if t376 < 0 then (some true) else ((laws_toPiece.f k l0_0 a0_1 a0_2).bind fun bt377 => ((laws_toCellS.f k l1).bind fun t382 => ((spec_IsCopy.f k bt377.1 bt377.2.1 bt377.2.2 t382).bind fun t385 => ((laws_toPiece.f k l0_0 a0_1 a0_2).bind fun bt386 => ((laws_toCellS.f k l1).bind fun t392 => ((impl_IsCopy.f k bt386.1 bt386.2.1 bt386.2.2 t392).bind fun t395 => (if (t395 != t385) = true then (some false) else ((laws_toPiece.f k l0_0 a0_1 a0_2).bind fun bt396 => ((laws_eqPiece.f k bt386.1 bt386.2.1 bt386.2.2 bt396.1 bt396.2.1 bt396.2.2).bind fun t401 => (if t401 = true then ((laws_toCellS.f k l1).bind fun t402 => ((laws_eqCellS.f k t392 t402).bind fun t405 => (if t405 = true then (some true) else (some false)))) else (some false)))))))))))) = some true := H
  have A8 := am A80
  clear A80
  by_cases c9 : t376 < 0
  ·rw [if_pos c9] at H
   have c9b0 : decide (t376 < 0) = true := decide_eq_true c9
   clear c9
   clear H
   go_enter Try.func3, Try.ntmps3
   go_wp2_with (first | ((with_reducible refine gate_dst (N := 2) rfl ?_); refine box_event ?hg (N := 2) ?hd (cs := #[.slice A0_0 l0_0.length c0_0, .int .i64 a0_1, .bool a0_2]) (t := 24) ?hr ?_; (case hd => rfl); (case hg => rfl); (case hr => first | (go_simp; done) | (go_simp; rfl)); intro gb374 hg w10 hbox hb; have n0_ := am (Bb6 (by repeat (first | (with_reducible first | exact HB.out | apply Bb1 | apply Bb2 | apply Bb3) | exact HB.out)) hb); have n1_ := am (hbox); have n2_ := am ((by rw [hg]; exact (Bb5 (by repeat (first | (with_reducible first | exact HB.out | apply Bb1 | apply Bb2 | apply Bb3) | exact HB.out))) : w.heap.size ≤ gb374)); have n3_ := n2_; clear HB; have HB := n0_; have BK374 := n1_; have GW374 := n2_; have GE374 := n3_; clear n0_ n1_ n2_ n3_; clear hb hbox hg; have hcz11_0 : w10.cell? ⟨gb374, 0, none⟩ = some (.slice A0_0 l0_0.length c0_0) := (kc BK374.out 0).trans rfl; have hcz11_1 : w10.cell? ⟨gb374, 1, none⟩ = some (.int .i64 a0_1) := (kc BK374.out 1).trans rfl; have hcz11_2 : w10.cell? ⟨gb374, 2, none⟩ = some (.bool a0_2) := (kc BK374.out 2).trans rfl; have hfz11_0 := kf BK374.out 0; have hfz11_1 := kf BK374.out 1; have hfz11_2 := kf BK374.out 2) | ((with_reducible refine gate_callee (f := 4) rfl ?_); refine goesL_ (some 12) rfl rfl Try.func4 (by kernel_rfl) rfl #[.agg #[.slice A0_0 l0_0.length c0_0, .int .i64 a0_1, .bool a0_2], .int .i64 1048576] rfl (by (try simp only [List.map_toArray, List.map_cons, List.map_nil]); first | done | rfl | (simp only [List.length_drop, List.length_take]; rfl)) ?_; (with_reducible refine (laws_szPiece.calls _ _ l0_0 a0_1 a0_2 1048576 t375 _ ?side1 ?side2 A3.out).mono ?_); (case side1 => repeat (first | exact (Kd.C_below HR0_0.out HB.out) | (with_reducible refine Kd.C_alloc ?_ _) | (with_reducible refine Kd.C_drewN ?_ _) | (with_reducible refine Kd.C_drew ?_))); (case side2 => exact HC0_0.out); rintro e w12 ⟨rfl, hb⟩; refine ⟨_, rfl, ?_⟩; have n0_ := am (Bk4 (g := gb374) (o := .cells #[.slice A0_0 l0_0.length c0_0, .int .i64 a0_1, .bool a0_2] 24 (0, 0)) (by (with_reducible repeat (first | refine Bk2 ?_ _ | refine Bk3 ?_ | refine Bk1 ?_ _)); exact BK374.out) hb); have n1_ := am (Bb6 (by repeat (first | (with_reducible first | exact HB.out | apply Bb1 | apply Bb2 | apply Bb3 | refine Bb4 ?_ GE374.out) | exact HB.out)) hb); clear BK374; clear HB; have BK374 := n0_; have HB := n1_; clear n0_ n1_; (try clear hb); (try clear hb2); (try clear hk); (try clear hi)) | ((with_reducible refine gate_callee (f := 5) rfl ?_); refine goesL_ (some 17) rfl rfl Try.func5 (by kernel_rfl) rfl #[.slice A1 l1.length c1, .int .i64 t375] rfl (by (try simp only [List.map_toArray, List.map_cons, List.map_nil]); first | done | rfl | (simp only [List.length_drop, List.length_take]; rfl)) ?_; (with_reducible refine (laws_szCellS.calls _ _ l1 t375 t376 _ ?side1 ?side2 A8.out).mono ?_); (case side1 => repeat (first | exact (Kd.C_below HR1.out HB.out) | (with_reducible refine Kd.C_alloc ?_ _) | (with_reducible refine Kd.C_drewN ?_ _) | (with_reducible refine Kd.C_drew ?_))); (case side2 => exact HC1.out); rintro e w' ⟨rfl, ⟨nd, rfl⟩⟩; refine ⟨_, rfl, ?_⟩))
   go_ret
   exact ⟨by first | rfl | (simp [errW_none, errW_some] <;> rfl) | (simp [*, errW_none, errW_some] <;> rfl), by repeat (first | (with_reducible first | exact HB.out | apply Bb1 | apply Bb2 | apply Bb3 | refine Bb4 ?_ GE374.out) | exact HB.out)⟩
  ·rw [if_neg c9] at H
   have c9b0 : decide (t376 < 0) = false := decide_eq_false c9
   clear c9
   replace H := ob H
   obtain ⟨⟨t377, t380, t381⟩, A130, H⟩ := H
   replace H : ((laws_toCellS.f k l1).bind fun t382 => ((spec_IsCopy.f k t377 t380 t381 t382).bind fun t385 => ((laws_toPiece.f k l0_0 a0_1 a0_2).bind fun bt386 => ((laws_toCellS.f k l1).bind fun t392 => ((impl_IsCopy.f k bt386.1 bt386.2.1 bt386.2.2 t392).bind fun t395 => (if (t395 != t385) = true then (some false) else ((laws_toPiece.f k l0_0 a0_1 a0_2).bind fun bt396 => ((laws_eqPiece.f k bt386.1 bt386.2.1 bt386.2.2 bt396.1 bt396.2.1 bt396.2.2).bind fun t401 => (if t401 = true then ((laws_toCellS.f k l1).bind fun t402 => ((laws_eqCellS.f k t392 t402).bind fun t405 => (if t405 = true then (some true) else (some false)))) else (some false)))))))))) = some true := H
   have A13 := am A130
   clear A130
   replace H := ob H
   obtain ⟨t382, A140, H⟩ := H
   replace H : ((spec_IsCopy.f k t377 t380 t381 t382).bind fun t385 => ((laws_toPiece.f k l0_0 a0_1 a0_2).bind fun bt386 => ((laws_toCellS.f k l1).bind fun t392 => ((impl_IsCopy.f k bt386.1 bt386.2.1 bt386.2.2 t392).bind fun t395 => (if (t395 != t385) = true then (some false) else ((laws_toPiece.f k l0_0 a0_1 a0_2).bind fun bt396 => ((laws_eqPiece.f k bt386.1 bt386.2.1 bt386.2.2 bt396.1 bt396.2.1 bt396.2.2).bind fun t401 => (if t401 = true then ((laws_toCellS.f k l1).bind fun t402 => ((laws_eqCellS.f k t392 t402).bind fun t405 => (if t405 = true then (some true) else (some false)))) else (some false))))))))) = some true := H
   have A14 := am A140
   clear A140
   replace H := ob H
   obtain ⟨t385, A150, H⟩ := H
   replace H : ((laws_toPiece.f k l0_0 a0_1 a0_2).bind fun bt386 => ((laws_toCellS.f k l1).bind fun t392 => ((impl_IsCopy.f k bt386.1 bt386.2.1 bt386.2.2 t392).bind fun t395 => (if (t395 != t385) = true then (some false) else ((laws_toPiece.f k l0_0 a0_1 a0_2).bind fun bt396 => ((laws_eqPiece.f k bt386.1 bt386.2.1 bt386.2.2 bt396.1 bt396.2.1 bt396.2.2).bind fun t401 => (if t401 = true then ((laws_toCellS.f k l1).bind fun t402 => ((laws_eqCellS.f k t392 t402).bind fun t405 => (if t405 = true then (some true) else (some false)))) else (some false)))))))) = some true := H
   have A15 := am A150
   clear A150
   replace H := ob H
   obtain ⟨⟨t386, t389, t390⟩, A160, H⟩ := H
   replace H : ((laws_toCellS.f k l1).bind fun t392 => ((impl_IsCopy.f k t386 t389 t390 t392).bind fun t395 => (if (t395 != t385) = true then (some false) else ((laws_toPiece.f k l0_0 a0_1 a0_2).bind fun bt396 => ((laws_eqPiece.f k t386 t389 t390 bt396.1 bt396.2.1 bt396.2.2).bind fun t401 => (if t401 = true then ((laws_toCellS.f k l1).bind fun t402 => ((laws_eqCellS.f k t392 t402).bind fun t405 => (if t405 = true then (some true) else (some false)))) else (some false))))))) = some true := H
   have A16 := am A160
   clear A160
   replace H := ob H
   obtain ⟨t392, A170, H⟩ := H
   replace H : ((impl_IsCopy.f k t386 t389 t390 t392).bind fun t395 => (if (t395 != t385) = true then (some false) else ((laws_toPiece.f k l0_0 a0_1 a0_2).bind fun bt396 => ((laws_eqPiece.f k t386 t389 t390 bt396.1 bt396.2.1 bt396.2.2).bind fun t401 => (if t401 = true then ((laws_toCellS.f k l1).bind fun t402 => ((laws_eqCellS.f k t392 t402).bind fun t405 => (if t405 = true then (some true) else (some false)))) else (some false)))))) = some true := H
   have A17 := am A170
   clear A170
   replace H := ob H
   obtain ⟨t395, A180, H⟩ := H
   replace H : (if (t395 != t385) = true then (some false) else ((laws_toPiece.f k l0_0 a0_1 a0_2).bind fun bt396 => ((laws_eqPiece.f k t386 t389 t390 bt396.1 bt396.2.1 bt396.2.2).bind fun t401 => (if t401 = true then ((laws_toCellS.f k l1).bind fun t402 => ((laws_eqCellS.f k t392 t402).bind fun t405 => (if t405 = true then (some true) else (some false)))) else (some false))))) = some true := H
   have A18 := am A180
   clear A180
   by_cases c19 : (t395 != t385) = true
   ·rw [if_pos c19] at H
    have c19b0 : (t395 != t385) = true := c19
    (try (have c19b1 : decide (t395 = t385) = false := by simpa using c19))
    (try (have c19b2 : (t395 == t385) = false := by simpa using c19))
    (try (have c19b3 : ¬ (t395 = t385) := by simpa using c19))
    clear c19
    exact absurd H (by simp)
   ·rw [if_neg c19] at H
    have c19b0 : (t395 != t385) = false := by simpa using c19
    (try (have c19b1 : decide (t395 = t385) = true := by simpa using c19))
    (try (have c19b2 : (t395 == t385) = true := by simpa using c19))
    clear c19
    replace H := ob H
    obtain ⟨⟨t396, t399, t400⟩, A200, H⟩ := H
    replace H : ((laws_eqPiece.f k t386 t389 t390 t396 t399 t400).bind fun t401 => (if t401 = true then ((laws_toCellS.f k l1).bind fun t402 => ((laws_eqCellS.f k t392 t402).bind fun t405 => (if t405 = true then (some true) else (some false)))) else (some false))) = some true := H
    have A20 := am A200
    clear A200
    replace H := ob H
    obtain ⟨t401, A210, H⟩ := H
    replace H : (if t401 = true then ((laws_toCellS.f k l1).bind fun t402 => ((laws_eqCellS.f k t392 t402).bind fun t405 => (if t405 = true then (some true) else (some false)))) else (some false)) = some true := H
    have A21 := am A210
    clear A210
    by_cases c22 : t401 = true
    ·subst c22
     have H1 : ((laws_toCellS.f k l1).bind fun t402 => ((laws_eqCellS.f k t392 t402).bind fun t405 => (if t405 = true then (some true) else (some false)))) = some true := by first | (rw [if_pos rfl] at H; exact H) | rfl
     clear H
     have H := H1
     clear H1
     replace H := ob H
     obtain ⟨t402, A230, H⟩ := H
     replace H : ((laws_eqCellS.f k t392 t402).bind fun t405 => (if t405 = true then (some true) else (some false))) = some true := H
     have A23 := am A230
     clear A230
     replace H := ob H
     obtain ⟨t405, A240, H⟩ := H
     replace H : (if t405 = true then (some true) else (some false)) = some true := H
     have A24 := am A240
     clear A240
     by_cases c25 : t405 = true
     ·subst c25
      have H1 : (some true) = some true := by first | (rw [if_pos rfl] at H; exact H) | rfl
      clear H
      have H := H1
      clear H1
      clear H
      go_enter Try.func3, Try.ntmps3
      try go_wp2_with (first | ((with_reducible refine gate_dst (N := 2) rfl ?_); refine box_event ?hg (N := 2) ?hd (cs := #[.slice A0_0 l0_0.length c0_0, .int .i64 a0_1, .bool a0_2]) (t := 24) ?hr ?_; (case hd => rfl); (case hg => rfl); (case hr => first | (go_simp; done) | (go_simp; rfl)); intro gb374 hg w26 hbox hb; have n0_ := am (Bb6 (by repeat (first | (with_reducible first | exact HB.out | apply Bb1 | apply Bb2 | apply Bb3) | exact HB.out)) hb); have n1_ := am (hbox); have n2_ := am ((by rw [hg]; exact (Bb5 (by repeat (first | (with_reducible first | exact HB.out | apply Bb1 | apply Bb2 | apply Bb3) | exact HB.out))) : w.heap.size ≤ gb374)); have n3_ := n2_; clear HB; have HB := n0_; have BK374 := n1_; have GW374 := n2_; have GE374 := n3_; clear n0_ n1_ n2_ n3_; clear hb hbox hg; have hcz27_0 : w26.cell? ⟨gb374, 0, none⟩ = some (.slice A0_0 l0_0.length c0_0) := (kc BK374.out 0).trans rfl; have hcz27_1 : w26.cell? ⟨gb374, 1, none⟩ = some (.int .i64 a0_1) := (kc BK374.out 1).trans rfl; have hcz27_2 : w26.cell? ⟨gb374, 2, none⟩ = some (.bool a0_2) := (kc BK374.out 2).trans rfl; have hfz27_0 := kf BK374.out 0; have hfz27_1 := kf BK374.out 1; have hfz27_2 := kf BK374.out 2) | ((with_reducible refine gate_callee (f := 4) rfl ?_); refine goesL_ (some 12) rfl rfl Try.func4 (by kernel_rfl) rfl #[.agg #[.slice A0_0 l0_0.length c0_0, .int .i64 a0_1, .bool a0_2], .int .i64 1048576] rfl (by (try simp only [List.map_toArray, List.map_cons, List.map_nil]); first | done | rfl | (simp only [List.length_drop, List.length_take]; rfl)) ?_; (with_reducible refine (laws_szPiece.calls _ _ l0_0 a0_1 a0_2 1048576 t375 _ ?side1 ?side2 A3.out).mono ?_); (case side1 => repeat (first | exact (Kd.C_below HR0_0.out HB.out) | (with_reducible refine Kd.C_alloc ?_ _) | (with_reducible refine Kd.C_drewN ?_ _) | (with_reducible refine Kd.C_drew ?_))); (case side2 => exact HC0_0.out); rintro e w28 ⟨rfl, hb⟩; refine ⟨_, rfl, ?_⟩; have n0_ := am (Bk4 (g := gb374) (o := .cells #[.slice A0_0 l0_0.length c0_0, .int .i64 a0_1, .bool a0_2] 24 (0, 0)) (by (with_reducible repeat (first | refine Bk2 ?_ _ | refine Bk3 ?_ | refine Bk1 ?_ _)); exact BK374.out) hb); have n1_ := am (Bb6 (by repeat (first | (with_reducible first | exact HB.out | apply Bb1 | apply Bb2 | apply Bb3 | refine Bb4 ?_ GE374.out) | exact HB.out)) hb); clear BK374; clear HB; have BK374 := n0_; have HB := n1_; clear n0_ n1_; (try clear hb); (try clear hb2); (try clear hk); (try clear hi)) | ((with_reducible refine gate_callee (f := 5) rfl ?_); refine goesL_ (some 17) rfl rfl Try.func5 (by kernel_rfl) rfl #[.slice A1 l1.length c1, .int .i64 t375] rfl (by (try simp only [List.map_toArray, List.map_cons, List.map_nil]); first | done | rfl | (simp only [List.length_drop, List.length_take]; rfl)) ?_; (with_reducible refine (laws_szCellS.calls _ _ l1 t375 t376 _ ?side1 ?side2 A8.out).mono ?_); (case side1 => repeat (first | exact (Kd.C_below HR1.out HB.out) | (with_reducible refine Kd.C_alloc ?_ _) | (with_reducible refine Kd.C_drewN ?_ _) | (with_reducible refine Kd.C_drew ?_))); (case side2 => exact HC1.out); rintro e w' ⟨rfl, ⟨nd, rfl⟩⟩; refine ⟨_, rfl, ?_⟩; (try (rw [drewN_self w28]; generalize hq_ : World.drewN w28 _ = w28; have n0_ : Aside0 (w28.heap[gb374]? = some (.cells #[.slice A0_0 l0_0.length c0_0, .int .i64 a0_1, .bool a0_2] 24 (0, 0))) := ⟨by rw [← hq_]; exact (by (with_reducible repeat (first | refine Bk2 ?_ _ | refine Bk3 ?_ | refine Bk1 ?_ _)); exact BK374.out)⟩; have n1_ : Aside0 (Below w.heap.size w w28) := ⟨by rw [← hq_]; exact (by repeat (first | (with_reducible first | exact HB.out | apply Bb1 | apply Bb2 | apply Bb3 | refine Bb4 ?_ GE374.out) | exact HB.out))⟩; clear BK374 HB hq_; have BK374 := n0_; have HB := n1_; clear n0_ n1_)); have hcz29_0 : w28.cell? ⟨gb374, 0, none⟩ = some (.slice A0_0 l0_0.length c0_0) := (kc BK374.out 0).trans rfl; have hcz29_1 : w28.cell? ⟨gb374, 1, none⟩ = some (.int .i64 a0_1) := (kc BK374.out 1).trans rfl; have hcz29_2 : w28.cell? ⟨gb374, 2, none⟩ = some (.bool a0_2) := (kc BK374.out 2).trans rfl; have hfz29_0 := kf BK374.out 0; have hfz29_1 := kf BK374.out 1; have hfz29_2 := kf BK374.out 2) | ((with_reducible refine gate_callee (f := 7) rfl ?_); refine goesL_ (some 21) rfl rfl Try.func7 (by kernel_rfl) rfl #[.agg #[.slice A0_0 l0_0.length c0_0, .int .i64 a0_1, .bool a0_2]] rfl (by (try simp only [List.map_toArray, List.map_cons, List.map_nil]); first | done | rfl | (simp only [List.length_drop, List.length_take]; rfl)) ?_; (with_reducible refine (laws_toPiece.calls k _ _ l0_0 a0_1 a0_2 t377 t380 t381 _ ?side1 ?side2 A13.out).mono ?_); (case side1 => repeat (first | exact (Kd.C_below HR0_0.out HB.out) | (with_reducible refine Kd.C_alloc ?_ _) | (with_reducible refine Kd.C_drewN ?_ _) | (with_reducible refine Kd.C_drew ?_))); (case side2 => exact HC0_0.out); rintro e w30 ⟨v378, rfl, ho0, hb⟩; refine ⟨_, rfl, ?_⟩; have n0_ := am (Kd.R_lower ho0 (Bb5 (by repeat (first | (with_reducible first | exact HB.out | apply Bb1 | apply Bb2 | apply Bb3 | refine Bb4 ?_ GE374.out) | exact HB.out)))); have n1_ := am (Bk4 (g := gb374) (o := .cells #[.slice A0_0 l0_0.length c0_0, .int .i64 a0_1, .bool a0_2] 24 (0, 0)) (by (with_reducible repeat (first | refine Bk2 ?_ _ | refine Bk3 ?_ | refine Bk1 ?_ _)); exact BK374.out) hb); have n2_ := am (Bb6 (by repeat (first | (with_reducible first | exact HB.out | apply Bb1 | apply Bb2 | apply Bb3 | refine Bb4 ?_ GE374.out) | exact HB.out)) hb); clear BK374; clear HB; have HO379 := n0_; have BK374 := n1_; have HB := n2_; clear n0_ n1_ n2_; (try clear hb); (try clear hb2); (try clear hk); (try clear hi); (try clear ho0)) | ((with_reducible refine gate_callee (f := 8) rfl ?_); refine goesL_ (some 23) rfl rfl Try.func8 (by kernel_rfl) rfl #[.slice A1 l1.length c1] rfl (by (try simp only [List.map_toArray, List.map_cons, List.map_nil]); first | done | rfl | (simp only [List.length_drop, List.length_take]; rfl)) ?_; (with_reducible refine (laws_toCellS.calls k _ _ l1 t382 _ ?side1 ?side2 A14.out).mono ?_); (case side1 => repeat (first | exact (Kd.C_below HR1.out HB.out) | (with_reducible refine Kd.C_alloc ?_ _) | (with_reducible refine Kd.C_drewN ?_ _) | (with_reducible refine Kd.C_drew ?_))); (case side2 => exact HC1.out); rintro e w31 ⟨v383, rfl, ho0, hb⟩; refine ⟨_, rfl, ?_⟩; have n0_ := am (Kd.R_elder' (by (with_reducible repeat (first | apply Kd.R_alloc | apply Kd.R_drewN | apply Kd.R_drew)); exact HO379.out) (Kd.R_base ho0) hb); have n1_ := am (Kd.R_lower (Kd.R_new' ho0 (Kd.R_lt (by (with_reducible repeat (first | apply Kd.R_alloc | apply Kd.R_drewN | apply Kd.R_drew)); exact HO379.out))) (Bb5 (by repeat (first | (with_reducible first | exact HB.out | apply Bb1 | apply Bb2 | apply Bb3 | refine Bb4 ?_ GE374.out) | exact HB.out)))); have n2_ := am (Bk4 (g := gb374) (o := .cells #[.slice A0_0 l0_0.length c0_0, .int .i64 a0_1, .bool a0_2] 24 (0, 0)) (by (with_reducible repeat (first | refine Bk2 ?_ _ | refine Bk3 ?_ | refine Bk1 ?_ _)); exact BK374.out) hb); have n3_ := am (Bb6 (by repeat (first | (with_reducible first | exact HB.out | apply Bb1 | apply Bb2 | apply Bb3 | refine Bb4 ?_ GE374.out) | exact HB.out)) hb); clear HO379; clear BK374; clear HB; have HO379 := n0_; have HO384 := n1_; have BK374 := n2_; have HB := n3_; clear n0_ n1_ n2_ n3_; (try clear hb); (try clear hb2); (try clear hk); (try clear hi); (try clear ho0); obtain ⟨Ao32, co32, eo32⟩ := Kd.R_slice HO379.out; subst eo32; obtain ⟨Ao33, co33, eo33⟩ := Kd.R_slice HO384.out; subst eo33) | ((with_reducible refine gate_callee (f := 6) rfl ?_); refine goesL_ (some 24) rfl rfl Try.func6 (by kernel_rfl) rfl #[.agg #[.slice Ao32 t377.length co32, .int .i64 t380, .bool t381], .slice Ao33 t382.length co33] rfl (by (try simp only [List.map_toArray, List.map_cons, List.map_nil]); first | done | rfl | (simp only [List.length_drop, List.length_take]; rfl)) ?_; (with_reducible refine (spec_IsCopy.calls k _ _ t377 t380 t381 _ _ t382 t385 _ ?side1 ?side2 ?side3 ?side4 A15.out).mono ?_); (case side1 => repeat (first | exact (Kd.R_reads' HO379.out).2.2 | (with_reducible refine Kd.C_alloc ?_ _) | (with_reducible refine Kd.C_drewN ?_ _) | (with_reducible refine Kd.C_drew ?_))); (case side2 => exact (Kd.R_reads' HO379.out).2.1); (case side3 => repeat (first | exact (Kd.R_reads' HO384.out).2.2 | (with_reducible refine Kd.C_alloc ?_ _) | (with_reducible refine Kd.C_drewN ?_ _) | (with_reducible refine Kd.C_drew ?_))); (case side4 => exact (Kd.R_reads' HO384.out).2.1); rintro e w34 ⟨rfl, hb⟩; refine ⟨_, rfl, ?_⟩; have n0_ := am (Kd.R_below (by (with_reducible repeat (first | apply Kd.R_alloc | apply Kd.R_drewN | apply Kd.R_drew)); exact HO379.out) hb); have n1_ := am (Kd.R_below (by (with_reducible repeat (first | apply Kd.R_alloc | apply Kd.R_drewN | apply Kd.R_drew)); exact HO384.out) hb); have n2_ := am (Bk4 (g := gb374) (o := .cells #[.slice A0_0 l0_0.length c0_0, .int .i64 a0_1, .bool a0_2] 24 (0, 0)) (by (with_reducible repeat (first | refine Bk2 ?_ _ | refine Bk3 ?_ | refine Bk1 ?_ _)); exact BK374.out) hb); have n3_ := am (Bb6 (by repeat (first | (with_reducible first | exact HB.out | apply Bb1 | apply Bb2 | apply Bb3 | refine Bb4 ?_ GE374.out) | exact HB.out)) hb); clear HO379; clear HO384; clear BK374; clear HB; have HO379 := n0_; have HO384 := n1_; have BK374 := n2_; have HB := n3_; clear n0_ n1_ n2_ n3_; (try clear hb); (try clear hb2); (try clear hk); (try clear hi); have hcz35_0 : w34.cell? ⟨gb374, 0, none⟩ = some (.slice A0_0 l0_0.length c0_0) := (kc BK374.out 0).trans rfl; have hcz35_1 : w34.cell? ⟨gb374, 1, none⟩ = some (.int .i64 a0_1) := (kc BK374.out 1).trans rfl; have hcz35_2 : w34.cell? ⟨gb374, 2, none⟩ = some (.bool a0_2) := (kc BK374.out 2).trans rfl; have hfz35_0 := kf BK374.out 0; have hfz35_1 := kf BK374.out 1; have hfz35_2 := kf BK374.out 2) | ((with_reducible refine gate_callee (f := 7) rfl ?_); refine goesL_ (some 26) rfl rfl Try.func7 (by kernel_rfl) rfl #[.agg #[.slice A0_0 l0_0.length c0_0, .int .i64 a0_1, .bool a0_2]] rfl (by (try simp only [List.map_toArray, List.map_cons, List.map_nil]); first | done | rfl | (simp only [List.length_drop, List.length_take]; rfl)) ?_; (with_reducible refine (laws_toPiece.calls k _ _ l0_0 a0_1 a0_2 t386 t389 t390 _ ?side1 ?side2 A16.out).mono ?_); (case side1 => repeat (first | exact (Kd.C_below HR0_0.out HB.out) | (with_reducible refine Kd.C_alloc ?_ _) | (with_reducible refine Kd.C_drewN ?_ _) | (with_reducible refine Kd.C_drew ?_))); (case side2 => exact HC0_0.out); rintro e w36 ⟨v387, rfl, ho0, hb⟩; refine ⟨_, rfl, ?_⟩; have n0_ := am (Kd.R_elder' (by (with_reducible repeat (first | apply Kd.R_alloc | apply Kd.R_drewN | apply Kd.R_drew)); exact HO379.out) (Kd.R_base ho0) hb); have n1_ := am (Kd.R_elder' (by (with_reducible repeat (first | apply Kd.R_alloc | apply Kd.R_drewN | apply Kd.R_drew)); exact HO384.out) (Kd.R_base ho0) hb); have n2_ := am (Kd.R_lower (Kd.R_new' (Kd.R_new' ho0 (Kd.R_lt (by (with_reducible repeat (first | apply Kd.R_alloc | apply Kd.R_drewN | apply Kd.R_drew)); exact HO379.out))) (Kd.R_lt (by (with_reducible repeat (first | apply Kd.R_alloc | apply Kd.R_drewN | apply Kd.R_drew)); exact HO384.out))) (Bb5 (by repeat (first | (with_reducible first | exact HB.out | apply Bb1 | apply Bb2 | apply Bb3 | refine Bb4 ?_ GE374.out) | exact HB.out)))); have n3_ := am (Bk4 (g := gb374) (o := .cells #[.slice A0_0 l0_0.length c0_0, .int .i64 a0_1, .bool a0_2] 24 (0, 0)) (by (with_reducible repeat (first | refine Bk2 ?_ _ | refine Bk3 ?_ | refine Bk1 ?_ _)); exact BK374.out) hb); have n4_ := am (Bb6 (by repeat (first | (with_reducible first | exact HB.out | apply Bb1 | apply Bb2 | apply Bb3 | refine Bb4 ?_ GE374.out) | exact HB.out)) hb); clear HO379; clear HO384; clear BK374; clear HB; have HO379 := n0_; have HO384 := n1_; have HO388 := n2_; have BK374 := n3_; have HB := n4_; clear n0_ n1_ n2_ n3_ n4_; (try clear hb); (try clear hb2); (try clear hk); (try clear hi); (try clear ho0)) | ((with_reducible refine gate_dst (N := 7) rfl ?_); refine box_event ?hg (N := 7) ?hd (cs := #[.slice none 0 0, .int .i64 0, .bool false]) (t := 30) ?hr ?_; (case hd => rfl); (case hg => rfl); (case hr => first | (go_simp; done) | (go_simp; rfl)); intro gb391 hg w37 hbox hb; have n0_ := am (Kd.R_below (by (with_reducible repeat (first | apply Kd.R_alloc | apply Kd.R_drewN | apply Kd.R_drew)); exact HO379.out) hb); have n1_ := am (Kd.R_below (by (with_reducible repeat (first | apply Kd.R_alloc | apply Kd.R_drewN | apply Kd.R_drew)); exact HO384.out) hb); have n2_ := am (Kd.R_below (by (with_reducible repeat (first | apply Kd.R_alloc | apply Kd.R_drewN | apply Kd.R_drew)); exact HO388.out) hb); have n3_ := am (Bk4 (g := gb374) (o := .cells #[.slice A0_0 l0_0.length c0_0, .int .i64 a0_1, .bool a0_2] 24 (0, 0)) (by (with_reducible repeat (first | refine Bk2 ?_ _ | refine Bk3 ?_ | refine Bk1 ?_ _)); exact BK374.out) hb); have n4_ := am (Bb6 (by repeat (first | (with_reducible first | exact HB.out | apply Bb1 | apply Bb2 | apply Bb3 | refine Bb4 ?_ GE374.out) | exact HB.out)) hb); have n5_ := am (hbox); have n6_ := am ((by rw [hg]; exact (Bb5 (by repeat (first | (with_reducible first | exact HB.out | apply Bb1 | apply Bb2 | apply Bb3 | refine Bb4 ?_ GE374.out) | exact HB.out))) : w.heap.size ≤ gb391)); have n7_ := n6_; have n8_ := am ((by rw [hg]; exact nl (Bk5 (g := gb374) (o := .cells #[.slice A0_0 l0_0.length c0_0, .int .i64 a0_1, .bool a0_2] 24 (0, 0)) (by (with_reducible repeat (first | refine Bk2 ?_ _ | refine Bk3 ?_ | refine Bk1 ?_ _)); exact BK374.out)) : gb374 ≠ gb391)); have n9_ := am ((by rw [hg]; exact ng (Bk5 (g := gb374) (o := .cells #[.slice A0_0 l0_0.length c0_0, .int .i64 a0_1, .bool a0_2] 24 (0, 0)) (by (with_reducible repeat (first | refine Bk2 ?_ _ | refine Bk3 ?_ | refine Bk1 ?_ _)); exact BK374.out)) : gb391 ≠ gb374)); clear HO379; clear HO384; clear HO388; clear BK374; clear HB; have HO379 := n0_; have HO384 := n1_; have HO388 := n2_; have BK374 := n3_; have HB := n4_; have BK391 := n5_; have GW391 := n6_; have GE391 := n7_; have NB374_391 := n8_; have NB391_374 := n9_; clear n0_ n1_ n2_ n3_ n4_ n5_ n6_ n7_ n8_ n9_; clear hb hbox hg; obtain ⟨Ao38, co38, eo38⟩ := Kd.R_slice HO388.out; subst eo38; have hnb39 := NB391_374.out; have hnc39 := NB374_391.out; have hcz40_0 : w37.cell? ⟨gb391, 0, none⟩ = some (.slice none 0 0) := (kc BK391.out 0).trans rfl; have hcz40_1 : w37.cell? ⟨gb391, 1, none⟩ = some (.int .i64 0) := (kc BK391.out 1).trans rfl; have hcz40_2 : w37.cell? ⟨gb391, 2, none⟩ = some (.bool false) := (kc BK391.out 2).trans rfl; have hfz40_0 := kf BK391.out 0; have hfz40_1 := kf BK391.out 1; have hfz40_2 := kf BK391.out 2) | ((with_reducible refine gate_callee (f := 8) rfl ?_); refine goesL_ (some 28) rfl rfl Try.func8 (by kernel_rfl) rfl #[.slice A1 l1.length c1] rfl (by (try simp only [List.map_toArray, List.map_cons, List.map_nil]); first | done | rfl | (simp only [List.length_drop, List.length_take]; rfl)) ?_; (with_reducible refine (laws_toCellS.calls k _ _ l1 t392 _ ?side1 ?side2 A17.out).mono ?_); (case side1 => exact Kd.C_below HR1.out (by repeat (first | (with_reducible first | exact HB.out | apply Bb1 | apply Bb2 | apply Bb3 | refine Bb4 ?_ GE374.out | refine Bb4 ?_ GE391.out) | exact HB.out))); (case side2 => exact HC1.out); rintro e w41 ⟨v393, rfl, ho0, hb⟩; refine ⟨_, rfl, ?_⟩; have n0_ := am (Kd.R_elder' (by (with_reducible repeat (first | apply Kd.R_alloc | apply Kd.R_drewN | apply Kd.R_drew)); exact (Kd.R_mono (Kd.R_far (p := ⟨gb391, 2, none⟩) (Kd.R_far (p := ⟨gb391, 1, none⟩) (Kd.R_far (p := ⟨gb391, 0, none⟩) (Kd.R_types HO379.out BK391.out (by decide)) (fun _ hk => hk.2) (.slice Ao38 t386.length co38)) (fun _ hk => hk.2) (.int .i64 t389)) (fun _ hk => hk.2) (.bool t390)) (fun _ h_ => h_.1))) (Kd.R_base ho0) hb); have n1_ := am (Kd.R_elder' (by (with_reducible repeat (first | apply Kd.R_alloc | apply Kd.R_drewN | apply Kd.R_drew)); exact (Kd.R_mono (Kd.R_far (p := ⟨gb391, 2, none⟩) (Kd.R_far (p := ⟨gb391, 1, none⟩) (Kd.R_far (p := ⟨gb391, 0, none⟩) (Kd.R_types HO384.out BK391.out (by decide)) (fun _ hk => hk.2) (.slice Ao38 t386.length co38)) (fun _ hk => hk.2) (.int .i64 t389)) (fun _ hk => hk.2) (.bool t390)) (fun _ h_ => h_.1))) (Kd.R_base ho0) hb); have n2_ := am (Kd.R_elder' (by (with_reducible repeat (first | apply Kd.R_alloc | apply Kd.R_drewN | apply Kd.R_drew)); exact (Kd.R_mono (Kd.R_far (p := ⟨gb391, 2, none⟩) (Kd.R_far (p := ⟨gb391, 1, none⟩) (Kd.R_far (p := ⟨gb391, 0, none⟩) (Kd.R_types HO388.out BK391.out (by decide)) (fun _ hk => hk.2) (.slice Ao38 t386.length co38)) (fun _ hk => hk.2) (.int .i64 t389)) (fun _ hk => hk.2) (.bool t390)) (fun _ h_ => h_.1))) (Kd.R_base ho0) hb); have n3_ := am (Kd.R_lower (Kd.R_new' (Kd.R_new' (Kd.R_new' ho0 (Kd.R_lt (by (with_reducible repeat (first | apply Kd.R_alloc | apply Kd.R_drewN | apply Kd.R_drew)); exact (Kd.R_mono (Kd.R_far (p := ⟨gb391, 2, none⟩) (Kd.R_far (p := ⟨gb391, 1, none⟩) (Kd.R_far (p := ⟨gb391, 0, none⟩) (Kd.R_types HO379.out BK391.out (by decide)) (fun _ hk => hk.2) (.slice Ao38 t386.length co38)) (fun _ hk => hk.2) (.int .i64 t389)) (fun _ hk => hk.2) (.bool t390)) (fun _ h_ => h_.1))))) (Kd.R_lt (by (with_reducible repeat (first | apply Kd.R_alloc | apply Kd.R_drewN | apply Kd.R_drew)); exact (Kd.R_mono (Kd.R_far (p := ⟨gb391, 2, none⟩) (Kd.R_far (p := ⟨gb391, 1, none⟩) (Kd.R_far (p := ⟨gb391, 0, none⟩) (Kd.R_types HO384.out BK391.out (by decide)) (fun _ hk => hk.2) (.slice Ao38 t386.length co38)) (fun _ hk => hk.2) (.int .i64 t389)) (fun _ hk => hk.2) (.bool t390)) (fun _ h_ => h_.1))))) (Kd.R_lt (by (with_reducible repeat (first | apply Kd.R_alloc | apply Kd.R_drewN | apply Kd.R_drew)); exact (Kd.R_mono (Kd.R_far (p := ⟨gb391, 2, none⟩) (Kd.R_far (p := ⟨gb391, 1, none⟩) (Kd.R_far (p := ⟨gb391, 0, none⟩) (Kd.R_types HO388.out BK391.out (by decide)) (fun _ hk => hk.2) (.slice Ao38 t386.length co38)) (fun _ hk => hk.2) (.int .i64 t389)) (fun _ hk => hk.2) (.bool t390)) (fun _ h_ => h_.1))))) (Bb5 (by repeat (first | (with_reducible first | exact HB.out | apply Bb1 | apply Bb2 | apply Bb3 | refine Bb4 ?_ GE374.out | refine Bb4 ?_ GE391.out) | exact HB.out)))); have n4_ := am (Bk4 (g := gb374) (o := .cells #[.slice A0_0 l0_0.length c0_0, .int .i64 a0_1, .bool a0_2] 24 (0, 0)) (by (with_reducible repeat (first | refine Bk2 ?_ _ | refine Bk3 ?_ | refine Bk1 ?_ _)); refine blk_far ?_ NB374_391.out _; (with_reducible repeat (first | refine Bk2 ?_ _ | refine Bk3 ?_ | refine Bk1 ?_ _)); refine blk_far ?_ NB374_391.out _; (with_reducible repeat (first | refine Bk2 ?_ _ | refine Bk3 ?_ | refine Bk1 ?_ _)); refine blk_far ?_ NB374_391.out _; (with_reducible repeat (first | refine Bk2 ?_ _ | refine Bk3 ?_ | refine Bk1 ?_ _)); exact BK374.out) hb); have n5_ := am (Bk4 (g := gb391) (o := .cells #[.slice Ao38 t386.length co38, .int .i64 t389, .bool t390] 30 (0, 0)) (by (with_reducible repeat (first | refine Bk2 ?_ _ | refine Bk3 ?_ | refine Bk1 ?_ _)); refine blk_put (cs := #[.slice Ao38 t386.length co38, .int .i64 t389, .bool false]) ?_ 2 _ rfl; (with_reducible repeat (first | refine Bk2 ?_ _ | refine Bk3 ?_ | refine Bk1 ?_ _)); refine blk_put (cs := #[.slice Ao38 t386.length co38, .int .i64 0, .bool false]) ?_ 1 _ rfl; (with_reducible repeat (first | refine Bk2 ?_ _ | refine Bk3 ?_ | refine Bk1 ?_ _)); refine blk_put (cs := #[.slice none 0 0, .int .i64 0, .bool false]) ?_ 0 _ rfl; (with_reducible repeat (first | refine Bk2 ?_ _ | refine Bk3 ?_ | refine Bk1 ?_ _)); exact BK391.out) hb); have n6_ := am (Bb6 (by repeat (first | (with_reducible first | exact HB.out | apply Bb1 | apply Bb2 | apply Bb3 | refine Bb4 ?_ GE374.out | refine Bb4 ?_ GE391.out) | exact HB.out)) hb); clear HO379; clear HO384; clear HO388; clear BK374; clear BK391; clear HB; have HO379 := n0_; have HO384 := n1_; have HO388 := n2_; have HO394 := n3_; have BK374 := n4_; have BK391 := n5_; have HB := n6_; clear n0_ n1_ n2_ n3_ n4_ n5_ n6_; (try clear hb); (try clear hb2); (try clear hk); (try clear hi); (try clear ho0); have hcz42_0 : w41.cell? ⟨gb391, 0, none⟩ = some (.slice Ao38 t386.length co38) := (kc BK391.out 0).trans rfl; have hcz42_1 : w41.cell? ⟨gb391, 1, none⟩ = some (.int .i64 t389) := (kc BK391.out 1).trans rfl; have hcz42_2 : w41.cell? ⟨gb391, 2, none⟩ = some (.bool t390) := (kc BK391.out 2).trans rfl; have hfz42_0 := kf BK391.out 0; have hfz42_1 := kf BK391.out 1; have hfz42_2 := kf BK391.out 2; obtain ⟨Ao43, co43, eo43⟩ := Kd.R_slice HO394.out; subst eo43) | ((with_reducible refine gate_callee (f := 9) rfl ?_); refine goesL_ (some 31) rfl rfl Try.func9 (by kernel_rfl) rfl #[.agg #[.slice Ao38 t386.length co38, .int .i64 t389, .bool t390], .slice Ao43 t392.length co43] rfl (by (try simp only [List.map_toArray, List.map_cons, List.map_nil]); first | done | rfl | (simp only [List.length_drop, List.length_take]; rfl)) ?_; (with_reducible refine (impl_IsCopy.calls k _ _ t386 t389 t390 _ _ t392 t395 _ ?side1 ?side2 ?side3 ?side4 A18.out).mono ?_); (case side1 => repeat (first | exact (Kd.R_reads' HO388.out).2.2 | (with_reducible refine Kd.C_alloc ?_ _) | (with_reducible refine Kd.C_drewN ?_ _) | (with_reducible refine Kd.C_drew ?_))); (case side2 => exact (Kd.R_reads' HO388.out).2.1); (case side3 => repeat (first | exact (Kd.R_reads' HO394.out).2.2 | (with_reducible refine Kd.C_alloc ?_ _) | (with_reducible refine Kd.C_drewN ?_ _) | (with_reducible refine Kd.C_drew ?_))); (case side4 => exact (Kd.R_reads' HO394.out).2.1); rintro e w44 ⟨rfl, hb⟩; refine ⟨_, rfl, ?_⟩; have n0_ := am (Kd.R_below (by (with_reducible repeat (first | apply Kd.R_alloc | apply Kd.R_drewN | apply Kd.R_drew)); exact HO379.out) hb); have n1_ := am (Kd.R_below (by (with_reducible repeat (first | apply Kd.R_alloc | apply Kd.R_drewN | apply Kd.R_drew)); exact HO384.out) hb); have n2_ := am (Kd.R_below (by (with_reducible repeat (first | apply Kd.R_alloc | apply Kd.R_drewN | apply Kd.R_drew)); exact HO388.out) hb); have n3_ := am (Kd.R_below (by (with_reducible repeat (first | apply Kd.R_alloc | apply Kd.R_drewN | apply Kd.R_drew)); exact HO394.out) hb); have n4_ := am (Bk4 (g := gb374) (o := .cells #[.slice A0_0 l0_0.length c0_0, .int .i64 a0_1, .bool a0_2] 24 (0, 0)) (by (with_reducible repeat (first | refine Bk2 ?_ _ | refine Bk3 ?_ | refine Bk1 ?_ _)); exact BK374.out) hb); have n5_ := am (Bk4 (g := gb391) (o := .cells #[.slice Ao38 t386.length co38, .int .i64 t389, .bool t390] 30 (0, 0)) (by (with_reducible repeat (first | refine Bk2 ?_ _ | refine Bk3 ?_ | refine Bk1 ?_ _)); exact BK391.out) hb); have n6_ := am (Bb6 (by repeat (first | (with_reducible first | exact HB.out | apply Bb1 | apply Bb2 | apply Bb3 | refine Bb4 ?_ GE374.out | refine Bb4 ?_ GE391.out) | exact HB.out)) hb); clear HO379; clear HO384; clear HO388; clear HO394; clear BK374; clear BK391; clear HB; have HO379 := n0_; have HO384 := n1_; have HO388 := n2_; have HO394 := n3_; have BK374 := n4_; have BK391 := n5_; have HB := n6_; clear n0_ n1_ n2_ n3_ n4_ n5_ n6_; (try clear hb); (try clear hb2); (try clear hk); (try clear hi)))
      have n0_ := am (Kd.R_drew HO379.out)
      have n1_ := am (Kd.R_drew HO384.out)
      have n2_ := am (Kd.R_drew HO388.out)
      have n3_ := am (Kd.R_drew HO394.out)
      have n4_ := am (Bk3 BK374.out)
      have n5_ := am (Bk3 BK391.out)
      have n6_ := am (Bb3 HB.out)
      clear HO379
      clear HO384
      clear HO388
      clear HO394
      clear BK374
      clear BK391
      clear HB
      have HO379 := n0_
      have HO384 := n1_
      have HO388 := n2_
      have HO394 := n3_
      have BK374 := n4_
      have BK391 := n5_
      have HB := n6_
      clear n0_ n1_ n2_ n3_ n4_ n5_ n6_
      refine start_ (n := 5) (S := fun w' => w'.cell? ⟨gb391, 0, none⟩ = some (.slice Ao38 t386.length co38) ∧ w'.cell? ⟨gb391, 1, none⟩ = some (.int .i64 t389) ∧ w'.cell? ⟨gb391, 2, none⟩ = some (.bool t390) ∧ w'.cell? ⟨gb374, 0, none⟩ = some (.slice A0_0 l0_0.length c0_0) ∧ w'.cell? ⟨gb374, 1, none⟩ = some (.int .i64 a0_1) ∧ w'.cell? ⟨gb374, 2, none⟩ = some (.bool a0_2)) (ds := []) #[false, false, false, false, false] (by kernel_rfl) rfl rfl ⟨(kc BK391.out 0).trans rfl, (kc BK391.out 1).trans rfl, (kc BK391.out 2).trans rfl, (kc BK374.out 0).trans rfl, (kc BK374.out 1).trans rfl, (kc BK374.out 2).trans rfl⟩ (fun hHeld => ?_)
      generalize w44.drew = w45 at HO379 HO384 HO388 HO394 BK374 BK391 HB hHeld ⊢
      refine take_ (i := 0) (N := some 35) (v := ?_) (a' := ?_) #[true, false, false, false, false] rfl rfl (by kernel_rfl) (fun _ _ _ h => h) (Or.inl ⟨by rfl, ?_⟩) hHeld ?_ ?_
      rotate_left
      ·rintro w' ⟨s0, s1, s2, s3, s4, s5⟩
       go_simp
       with_reducible rfl
      rotate_left
      ·simp only [Act.put, sa, i64_w, i32_w]
       rfl
      refine take_ (i := 1) (N := some 36) (v := ?_) (a' := ?_) #[true, true, false, false, false] rfl rfl (by kernel_rfl) (fun _ _ _ h => h) (Or.inl ⟨by rfl, ?_⟩) hHeld ?_ ?_
      rotate_left
      ·rintro w' ⟨s0, s1, s2, s3, s4, s5⟩
       go_simp
       with_reducible rfl
      rotate_left
      ·simp only [Act.put, sa, i64_w, i32_w]
       rfl
      refine one_ (i := 2) (N := some 37) #[true, true, true, false, false] rfl rfl (by kernel_rfl) (by decide) (fun K hK => ?_)
      refine goes_ Try.func7 (by kernel_rfl) rfl #[.agg #[.slice A0_0 l0_0.length c0_0, .int .i64 a0_1, .bool a0_2]] (by rfl) rfl rfl (by (try simp only [List.map_toArray, List.map_cons, List.map_nil]); first | done | rfl | (simp only [List.length_drop, List.length_take]; rfl)) ?_
      with_reducible refine (laws_toPiece.calls k _ _ l0_0 a0_1 a0_2 t396 t399 t400 _ ?side1 ?side2 A20.out).mono ?_
      (case side1 => repeat (first | exact (Kd.C_below HR0_0.out HB.out) | (with_reducible refine Kd.C_alloc ?_ _) | (with_reducible refine Kd.C_drewN ?_ _) | (with_reducible refine Kd.C_drew ?_)))
      (case side2 => exact HC0_0.out)
      rintro e w46 ⟨v397, rfl, ho0, hb⟩
      refine ⟨_, rfl, ?_⟩
      have n0_ := am (Kd.R_elder' (by (with_reducible repeat (first | apply Kd.R_alloc | apply Kd.R_drewN | apply Kd.R_drew)); exact HO379.out) (Kd.R_base ho0) hb)
      have n1_ := am (Kd.R_elder' (by (with_reducible repeat (first | apply Kd.R_alloc | apply Kd.R_drewN | apply Kd.R_drew)); exact HO384.out) (Kd.R_base ho0) hb)
      have n2_ := am (Kd.R_elder' (by (with_reducible repeat (first | apply Kd.R_alloc | apply Kd.R_drewN | apply Kd.R_drew)); exact HO388.out) (Kd.R_base ho0) hb)
      have n3_ := am (Kd.R_elder' (by (with_reducible repeat (first | apply Kd.R_alloc | apply Kd.R_drewN | apply Kd.R_drew)); exact HO394.out) (Kd.R_base ho0) hb)
      have n4_ := am (Kd.R_lower (Kd.R_new' (Kd.R_new' (Kd.R_new' (Kd.R_new' ho0 (Kd.R_lt (by (with_reducible repeat (first | apply Kd.R_alloc | apply Kd.R_drewN | apply Kd.R_drew)); exact HO379.out))) (Kd.R_lt (by (with_reducible repeat (first | apply Kd.R_alloc | apply Kd.R_drewN | apply Kd.R_drew)); exact HO384.out))) (Kd.R_lt (by (with_reducible repeat (first | apply Kd.R_alloc | apply Kd.R_drewN | apply Kd.R_drew)); exact HO388.out))) (Kd.R_lt (by (with_reducible repeat (first | apply Kd.R_alloc | apply Kd.R_drewN | apply Kd.R_drew)); exact HO394.out))) (Bb5 (by repeat (first | (with_reducible first | exact HB.out | apply Bb1 | apply Bb2 | apply Bb3 | refine Bb4 ?_ GE374.out | refine Bb4 ?_ GE391.out) | exact HB.out))))
      have n5_ := am (Bk4 (g := gb374) (o := .cells #[.slice A0_0 l0_0.length c0_0, .int .i64 a0_1, .bool a0_2] 24 (0, 0)) (by (with_reducible repeat (first | refine Bk2 ?_ _ | refine Bk3 ?_ | refine Bk1 ?_ _)); exact BK374.out) hb)
      have n6_ := am (Bk4 (g := gb391) (o := .cells #[.slice Ao38 t386.length co38, .int .i64 t389, .bool t390] 30 (0, 0)) (by (with_reducible repeat (first | refine Bk2 ?_ _ | refine Bk3 ?_ | refine Bk1 ?_ _)); exact BK391.out) hb)
      have n7_ := am (Bb6 (by repeat (first | (with_reducible first | exact HB.out | apply Bb1 | apply Bb2 | apply Bb3 | refine Bb4 ?_ GE374.out | refine Bb4 ?_ GE391.out) | exact HB.out)) hb)
      clear HO379
      clear HO384
      clear HO388
      clear HO394
      clear BK374
      clear BK391
      clear HB
      have HO379 := n0_
      have HO384 := n1_
      have HO388 := n2_
      have HO394 := n3_
      have HO398 := n4_
      have BK374 := n5_
      have BK391 := n6_
      have HB := n7_
      clear n0_ n1_ n2_ n3_ n4_ n5_ n6_ n7_
      (try clear hb)
      (try clear hb2)
      (try clear hk)
      (try clear hi)
      (try clear ho0)
      obtain ⟨Ao47, co47, eo47⟩ := Kd.R_slice HO398.out
      (first | subst eo47 | (injection eo47 with f1_ f2_ f3_; have f4_ := f1_.symm; have f5_ := f3_.symm; clear f1_ f2_ f3_; subst f4_; subst f5_))
      refine hK.out _ _ ⟨(kc BK391.out 0).trans rfl, (kc BK391.out 1).trans rfl, (kc BK391.out 2).trans rfl, (kc BK374.out 0).trans rfl, (kc BK374.out 1).trans rfl, (kc BK374.out 2).trans rfl⟩ (fun hHeld => ?_)
      clear hK K
      refine norm_ (a' := ?_) ?_ ?_
      rotate_left
      ·show Act.put _ (some 37) _ = _
       simp only [Act.put, sa, i64_w, i32_w]
       rfl
      refine one_ (i := 3) (N := some 38) #[true, true, true, true, false] rfl rfl (by kernel_rfl) (by decide) (fun K hK => ?_)
      refine goes_ Try.func10 (by kernel_rfl) rfl #[.agg #[.slice Ao38 t386.length co38, .int .i64 t389, .bool t390], .agg #[.slice Ao47 t396.length co47, .int .i64 t399, .bool t400]] (by rfl) rfl rfl (by (try simp only [List.map_toArray, List.map_cons, List.map_nil]); first | done | rfl | (simp only [List.length_drop, List.length_take]; rfl)) ?_
      with_reducible refine (laws_eqPiece.calls k _ _ t386 t389 t390 _ _ t396 t399 t400 true _ ?side1 ?side2 ?side3 ?side4 A21.out).mono ?_
      (case side1 => repeat (first | exact (Kd.R_reads' HO388.out).2.2 | (with_reducible refine Kd.C_alloc ?_ _) | (with_reducible refine Kd.C_drewN ?_ _) | (with_reducible refine Kd.C_drew ?_)))
      (case side2 => exact (Kd.R_reads' HO388.out).2.1)
      (case side3 => repeat (first | exact (Kd.R_reads' HO398.out).2.2 | (with_reducible refine Kd.C_alloc ?_ _) | (with_reducible refine Kd.C_drewN ?_ _) | (with_reducible refine Kd.C_drew ?_)))
      (case side4 => exact (Kd.R_reads' HO398.out).2.1)
      rintro e w48 ⟨rfl, hb⟩
      refine ⟨_, rfl, ?_⟩
      have n0_ := am (Kd.R_below (by (with_reducible repeat (first | apply Kd.R_alloc | apply Kd.R_drewN | apply Kd.R_drew)); exact HO379.out) hb)
      have n1_ := am (Kd.R_below (by (with_reducible repeat (first | apply Kd.R_alloc | apply Kd.R_drewN | apply Kd.R_drew)); exact HO384.out) hb)
      have n2_ := am (Kd.R_below (by (with_reducible repeat (first | apply Kd.R_alloc | apply Kd.R_drewN | apply Kd.R_drew)); exact HO388.out) hb)
      have n3_ := am (Kd.R_below (by (with_reducible repeat (first | apply Kd.R_alloc | apply Kd.R_drewN | apply Kd.R_drew)); exact HO394.out) hb)
      have n4_ := am (Kd.R_below (by (with_reducible repeat (first | apply Kd.R_alloc | apply Kd.R_drewN | apply Kd.R_drew)); exact HO398.out) hb)
      have n5_ := am (Bk4 (g := gb374) (o := .cells #[.slice A0_0 l0_0.length c0_0, .int .i64 a0_1, .bool a0_2] 24 (0, 0)) (by (with_reducible repeat (first | refine Bk2 ?_ _ | refine Bk3 ?_ | refine Bk1 ?_ _)); exact BK374.out) hb)
      have n6_ := am (Bk4 (g := gb391) (o := .cells #[.slice Ao38 t386.length co38, .int .i64 t389, .bool t390] 30 (0, 0)) (by (with_reducible repeat (first | refine Bk2 ?_ _ | refine Bk3 ?_ | refine Bk1 ?_ _)); exact BK391.out) hb)
      have n7_ := am (Bb6 (by repeat (first | (with_reducible first | exact HB.out | apply Bb1 | apply Bb2 | apply Bb3 | refine Bb4 ?_ GE374.out | refine Bb4 ?_ GE391.out) | exact HB.out)) hb)
      clear HO379
      clear HO384
      clear HO388
      clear HO394
      clear HO398
      clear BK374
      clear BK391
      clear HB
      have HO379 := n0_
      have HO384 := n1_
      have HO388 := n2_
      have HO394 := n3_
      have HO398 := n4_
      have BK374 := n5_
      have BK391 := n6_
      have HB := n7_
      clear n0_ n1_ n2_ n3_ n4_ n5_ n6_ n7_
      (try clear hb)
      (try clear hb2)
      (try clear hk)
      (try clear hi)
      refine hK.out _ _ ⟨(kc BK391.out 0).trans rfl, (kc BK391.out 1).trans rfl, (kc BK391.out 2).trans rfl, (kc BK374.out 0).trans rfl, (kc BK374.out 1).trans rfl, (kc BK374.out 2).trans rfl⟩ (fun hHeld => ?_)
      clear hK K
      refine norm_ (a' := ?_) ?_ ?_
      rotate_left
      ·show Act.put _ (some 38) _ = _
       simp only [Act.put, sa, i64_w, i32_w]
       rfl
      refine pure_ (i := 4) (N := some 39) (v := ?_) (a' := ?_) #[true, true, true, true, true] rfl rfl (by kernel_rfl) (fun _ _ _ h => h) (Or.inl ⟨by rfl, ?_⟩) ?_ ?_
      rotate_left
      ·intro w'
       go_simp
       with_reducible rfl
      rotate_left
      ·simp only [Act.put, sa, i64_w, i32_w]
       rfl
      refine done_ (by kernel_rfl) ?_
      try go_wp2_with (first | ((with_reducible refine gate_callee (f := 8) rfl ?_); refine goesL_ (some 42) rfl rfl Try.func8 (by kernel_rfl) rfl #[.slice A1 l1.length c1] rfl (by (try simp only [List.map_toArray, List.map_cons, List.map_nil]); first | done | rfl | (simp only [List.length_drop, List.length_take]; rfl)) ?_; (with_reducible refine (laws_toCellS.calls k _ _ l1 t402 _ ?side1 ?side2 A23.out).mono ?_); (case side1 => repeat (first | exact (Kd.C_below HR1.out HB.out) | (with_reducible refine Kd.C_alloc ?_ _) | (with_reducible refine Kd.C_drewN ?_ _) | (with_reducible refine Kd.C_drew ?_))); (case side2 => exact HC1.out); rintro e w49 ⟨v403, rfl, ho0, hb⟩; refine ⟨_, rfl, ?_⟩; have n0_ := am (Kd.R_elder' (by (with_reducible repeat (first | apply Kd.R_alloc | apply Kd.R_drewN | apply Kd.R_drew)); exact HO379.out) (Kd.R_base ho0) hb); have n1_ := am (Kd.R_elder' (by (with_reducible repeat (first | apply Kd.R_alloc | apply Kd.R_drewN | apply Kd.R_drew)); exact HO384.out) (Kd.R_base ho0) hb); have n2_ := am (Kd.R_elder' (by (with_reducible repeat (first | apply Kd.R_alloc | apply Kd.R_drewN | apply Kd.R_drew)); exact HO388.out) (Kd.R_base ho0) hb); have n3_ := am (Kd.R_elder' (by (with_reducible repeat (first | apply Kd.R_alloc | apply Kd.R_drewN | apply Kd.R_drew)); exact HO394.out) (Kd.R_base ho0) hb); have n4_ := am (Kd.R_elder' (by (with_reducible repeat (first | apply Kd.R_alloc | apply Kd.R_drewN | apply Kd.R_drew)); exact HO398.out) (Kd.R_base ho0) hb); have n5_ := am (Kd.R_lower (Kd.R_new' (Kd.R_new' (Kd.R_new' (Kd.R_new' (Kd.R_new' ho0 (Kd.R_lt (by (with_reducible repeat (first | apply Kd.R_alloc | apply Kd.R_drewN | apply Kd.R_drew)); exact HO379.out))) (Kd.R_lt (by (with_reducible repeat (first | apply Kd.R_alloc | apply Kd.R_drewN | apply Kd.R_drew)); exact HO384.out))) (Kd.R_lt (by (with_reducible repeat (first | apply Kd.R_alloc | apply Kd.R_drewN | apply Kd.R_drew)); exact HO388.out))) (Kd.R_lt (by (with_reducible repeat (first | apply Kd.R_alloc | apply Kd.R_drewN | apply Kd.R_drew)); exact HO394.out))) (Kd.R_lt (by (with_reducible repeat (first | apply Kd.R_alloc | apply Kd.R_drewN | apply Kd.R_drew)); exact HO398.out))) (Bb5 (by repeat (first | (with_reducible first | exact HB.out | apply Bb1 | apply Bb2 | apply Bb3 | refine Bb4 ?_ GE374.out | refine Bb4 ?_ GE391.out) | exact HB.out)))); have n6_ := am (Bk4 (g := gb374) (o := .cells #[.slice A0_0 l0_0.length c0_0, .int .i64 a0_1, .bool a0_2] 24 (0, 0)) (by (with_reducible repeat (first | refine Bk2 ?_ _ | refine Bk3 ?_ | refine Bk1 ?_ _)); exact BK374.out) hb); have n7_ := am (Bk4 (g := gb391) (o := .cells #[.slice Ao38 t386.length co38, .int .i64 t389, .bool t390] 30 (0, 0)) (by (with_reducible repeat (first | refine Bk2 ?_ _ | refine Bk3 ?_ | refine Bk1 ?_ _)); exact BK391.out) hb); have n8_ := am (Bb6 (by repeat (first | (with_reducible first | exact HB.out | apply Bb1 | apply Bb2 | apply Bb3 | refine Bb4 ?_ GE374.out | refine Bb4 ?_ GE391.out) | exact HB.out)) hb); clear HO379; clear HO384; clear HO388; clear HO394; clear HO398; clear BK374; clear BK391; clear HB; have HO379 := n0_; have HO384 := n1_; have HO388 := n2_; have HO394 := n3_; have HO398 := n4_; have HO404 := n5_; have BK374 := n6_; have BK391 := n7_; have HB := n8_; clear n0_ n1_ n2_ n3_ n4_ n5_ n6_ n7_ n8_; (try clear hb); (try clear hb2); (try clear hk); (try clear hi); (try clear ho0); obtain ⟨Ao50, co50, eo50⟩ := Kd.R_slice HO404.out; subst eo50) | ((with_reducible refine gate_callee (f := 11) rfl ?_); refine goesL_ (some 43) rfl rfl Try.func11 (by kernel_rfl) rfl #[.slice Ao43 t392.length co43, .slice Ao50 t402.length co50] rfl (by (try simp only [List.map_toArray, List.map_cons, List.map_nil]); first | done | rfl | (simp only [List.length_drop, List.length_take]; rfl)) ?_; (with_reducible refine (laws_eqCellS.calls k _ _ t392 _ _ t402 true _ ?side1 ?side2 ?side3 ?side4 A24.out).mono ?_); (case side1 => repeat (first | exact (Kd.R_reads' HO394.out).2.2 | (with_reducible refine Kd.C_alloc ?_ _) | (with_reducible refine Kd.C_drewN ?_ _) | (with_reducible refine Kd.C_drew ?_))); (case side2 => exact (Kd.R_reads' HO394.out).2.1); (case side3 => repeat (first | exact (Kd.R_reads' HO404.out).2.2 | (with_reducible refine Kd.C_alloc ?_ _) | (with_reducible refine Kd.C_drewN ?_ _) | (with_reducible refine Kd.C_drew ?_))); (case side4 => exact (Kd.R_reads' HO404.out).2.1); rintro e w51 ⟨rfl, hb⟩; refine ⟨_, rfl, ?_⟩; have n0_ := am (Kd.R_below (by (with_reducible repeat (first | apply Kd.R_alloc | apply Kd.R_drewN | apply Kd.R_drew)); exact HO379.out) hb); have n1_ := am (Kd.R_below (by (with_reducible repeat (first | apply Kd.R_alloc | apply Kd.R_drewN | apply Kd.R_drew)); exact HO384.out) hb); have n2_ := am (Kd.R_below (by (with_reducible repeat (first | apply Kd.R_alloc | apply Kd.R_drewN | apply Kd.R_drew)); exact HO388.out) hb); have n3_ := am (Kd.R_below (by (with_reducible repeat (first | apply Kd.R_alloc | apply Kd.R_drewN | apply Kd.R_drew)); exact HO394.out) hb); have n4_ := am (Kd.R_below (by (with_reducible repeat (first | apply Kd.R_alloc | apply Kd.R_drewN | apply Kd.R_drew)); exact HO398.out) hb); have n5_ := am (Kd.R_below (by (with_reducible repeat (first | apply Kd.R_alloc | apply Kd.R_drewN | apply Kd.R_drew)); exact HO404.out) hb); have n6_ := am (Bk4 (g := gb374) (o := .cells #[.slice A0_0 l0_0.length c0_0, .int .i64 a0_1, .bool a0_2] 24 (0, 0)) (by (with_reducible repeat (first | refine Bk2 ?_ _ | refine Bk3 ?_ | refine Bk1 ?_ _)); exact BK374.out) hb); have n7_ := am (Bk4 (g := gb391) (o := .cells #[.slice Ao38 t386.length co38, .int .i64 t389, .bool t390] 30 (0, 0)) (by (with_reducible repeat (first | refine Bk2 ?_ _ | refine Bk3 ?_ | refine Bk1 ?_ _)); exact BK391.out) hb); have n8_ := am (Bb6 (by repeat (first | (with_reducible first | exact HB.out | apply Bb1 | apply Bb2 | apply Bb3 | refine Bb4 ?_ GE374.out | refine Bb4 ?_ GE391.out) | exact HB.out)) hb); clear HO379; clear HO384; clear HO388; clear HO394; clear HO398; clear HO404; clear BK374; clear BK391; clear HB; have HO379 := n0_; have HO384 := n1_; have HO388 := n2_; have HO394 := n3_; have HO398 := n4_; have HO404 := n5_; have BK374 := n6_; have BK391 := n7_; have HB := n8_; clear n0_ n1_ n2_ n3_ n4_ n5_ n6_ n7_ n8_; (try clear hb); (try clear hb2); (try clear hk); (try clear hi)))
      go_ret
      exact ⟨by first | rfl | (simp [errW_none, errW_some] <;> rfl) | (simp [*, errW_none, errW_some] <;> rfl), by repeat (first | (with_reducible first | exact HB.out | apply Bb1 | apply Bb2 | apply Bb3 | refine Bb4 ?_ GE374.out | refine Bb4 ?_ GE391.out) | exact HB.out)⟩
     ·replace c25 := ef c25
      subst c25
      have H1 : (some false) = some true := by first | (rw [if_neg (show ¬ (false = true) by decide)] at H; exact H) | rfl
      clear H
      have H := H1
      clear H1
      exact absurd H (by simp)
    ·replace c22 := ef c22
     subst c22
     have H1 : (some false) = some true := by first | (rw [if_neg (show ¬ (false = true) by decide)] at H; exact H) | rfl
     clear H
     have H := H1
     clear H1
     exact absurd H (by simp)

end Go.Proofs.Ytlkgmlpcianopaa.Q
