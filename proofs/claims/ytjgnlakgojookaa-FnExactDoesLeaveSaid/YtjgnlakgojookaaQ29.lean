/- Written by a program of this session (wip/tools/pp.py) out of the translation, with the kit's printer. -/
import Derived.Test.YtjgnlakgojookaaQ0
import Derived.Test.YtjgnlakgojookaaQ2
import Derived.Test.YtjgnlakgojookaaQ8
import Derived.Test.YtjgnlakgojookaaQ9
import Derived.Test.YtjgnlakgojookaaQ17
import Derived.Test.YtjgnlakgojookaaQ18
import Derived.Test.YtjgnlakgojookaaQ28
import Derived.Test.YtjgnlakgojookaaQGimplDoesLeave
namespace Go.Proofs.Ytjgnlakgojookaa.Q
open Go.RowKit Go.Proofs.YtjgnlakgojookaaW.PrintWords Go.Proofs.YtjgnlakgojookaaW.PrintLast Go.Proofs.YtjgnlakgojookaaW.PrintMore
attribute [local go_sem] max2_int min2_int max_two min_two max_three min_three max_four min_four
set_option linter.unusedVariables false
set_option linter.unusedSimpArgs false

/-! ### laws_FnExactDoesLeave: function 6 -/
def laws_FnExactDoesLeave.j0 : Nat → List (S79) → List (S71) → Bool → List (List (S79)) → List (List (S71)) → Option (Bool)
 | 0, _, _, _, _, _ => none
 | k + 1, x1, x13, x55, x368000, x382000 => if x55 = true then (some false) else ((laws_toAssembly.f k x368000).bind fun t387 => ((laws_eqAssembly.f k x382000 t387).bind fun t390 => (if t390 = true then ((laws_toCubeS.f k x1).bind fun t391 => ((laws_eqCubeS.f k x13 t391).bind fun t394 => (if t394 = true then (some true) else (some false)))) else (some false))))
def laws_FnExactDoesLeave.f (k : Nat) (l0_0 : List (List (S79))) (l1 : List (S79)) (a2 : Int) (a3 : Int) : Option (Bool) := (laws_szAssembly.f k l0_0 1048576).bind fun t368 => (if t368 < 0 then (some true) else ((laws_szCubeS.f l1 t368).bind fun t369 => (if t369 < 0 then (some true) else ((laws_toAssembly.f k l0_0).bind fun t370 => ((laws_toCubeS.f k l1).bind fun t373 => ((spec_DoesLeave.f k t370 t373 a2 a3).bind fun bt376 => ((laws_toAssembly.f k l0_0).bind fun t378 => ((laws_toCubeS.f k l1).bind fun t382 => ((impl_DoesLeave.f k t378 t382 a2 a3).bind fun bt385 => (if (bt385.1 != bt376.1) = true then (laws_FnExactDoesLeave.j0 k l1 t382 true l0_0 t378) else (laws_FnExactDoesLeave.j0 k l1 t382 (bt385.2 != bt376.2) l0_0 t378)))))))))))
theorem laws_FnExactDoesLeave.mono_l : ∀ k, (∀ y0 y1 y2 y3 y4, LeO (laws_FnExactDoesLeave.j0 k y0 y1 y2 y3 y4) (laws_FnExactDoesLeave.j0 (k + 1) y0 y1 y2 y3 y4))
 | 0 => fun _ _ _ _ _ r h => by simp [laws_FnExactDoesLeave.j0] at h
 | k + 1 => by
  have ih0 := laws_FnExactDoesLeave.mono_l k
  ·intro y0 y1 y2 y3 y4
   unfold laws_FnExactDoesLeave.j0
   repeat' first
   | (with_reducible exact ih0 _ _ _ _ _)
   | (with_reducible exact impl_DoesLeave.mono _ _ _ _ _)
   | (with_reducible exact laws_eqAssembly.mono _ _ _)
   | (with_reducible exact laws_eqCubeS.mono _ _ _)
   | (with_reducible exact laws_szAssembly.mono _ _ _)
   | (with_reducible exact laws_toAssembly.mono _ _)
   | (with_reducible exact laws_toCubeS.mono _ _)
   | (with_reducible exact spec_DoesLeave.mono _ _ _ _ _)
   | (with_reducible exact LeO.refl _)
   | (with_reducible exact LeO.none _)
   | (with_reducible refine LeO.ite ?_ ?_)
   | (with_reducible refine LeO.bind ?_ (fun _ => ?_))
   | exact ih0 _ _ _ _ _
   | exact impl_DoesLeave.mono _ _ _ _ _
   | exact laws_eqAssembly.mono _ _ _
   | exact laws_eqCubeS.mono _ _ _
   | exact laws_szAssembly.mono _ _ _
   | exact laws_toAssembly.mono _ _
   | exact laws_toCubeS.mono _ _
   | exact spec_DoesLeave.mono _ _ _ _ _
   | exact LeO.none _
   | refine LeO.ite ?_ ?_
   | refine LeO.bind ?_ (fun _ => ?_)
theorem laws_FnExactDoesLeave.mono : ∀ a0 a1 a2 a3 k, LeO (laws_FnExactDoesLeave.f k a0 a1 a2 a3) (laws_FnExactDoesLeave.f (k + 1) a0 a1 a2 a3) := by
 intro a0 a1 a2 a3 k
 have ih0 := laws_FnExactDoesLeave.mono_l k
 unfold laws_FnExactDoesLeave.f
 repeat' first
   | (with_reducible exact ih0 _ _ _ _ _)
   | (with_reducible exact impl_DoesLeave.mono _ _ _ _ _)
   | (with_reducible exact laws_eqAssembly.mono _ _ _)
   | (with_reducible exact laws_eqCubeS.mono _ _ _)
   | (with_reducible exact laws_szAssembly.mono _ _ _)
   | (with_reducible exact laws_toAssembly.mono _ _)
   | (with_reducible exact laws_toCubeS.mono _ _)
   | (with_reducible exact spec_DoesLeave.mono _ _ _ _ _)
   | (with_reducible exact LeO.refl _)
   | (with_reducible exact LeO.none _)
   | (with_reducible refine LeO.ite ?_ ?_)
   | (with_reducible refine LeO.bind ?_ (fun _ => ?_))
   | exact ih0 _ _ _ _ _
   | exact impl_DoesLeave.mono _ _ _ _ _
   | exact laws_eqAssembly.mono _ _ _
   | exact laws_eqCubeS.mono _ _ _
   | exact laws_szAssembly.mono _ _ _
   | exact laws_toAssembly.mono _ _
   | exact laws_toCubeS.mono _ _
   | exact spec_DoesLeave.mono _ _ _ _ _
   | exact LeO.none _
   | refine LeO.ite ?_ ?_
   | refine LeO.bind ?_ (fun _ => ?_)
set_option maxHeartbeats 8000000 in
set_option maxRecDepth 100000 in
theorem laws_FnExactDoesLeave.calls (k : Nat) (A0_0 : Option Addr) (c0_0 : Nat) (l0_0 : List (List (S79))) (A1 : Option Addr) (c1 : Nat) (l1 : List (S79)) (a2 : Int) (a3 : Int) (w : World) (hr0_0 : Kd.C (Kd.slice 79 k79) w A0_0 l0_0.length l0_0) (hc0_0 : l0_0.length ≤ c0_0) (hr1 : Kd.C k79 w A1 l1.length l1) (hc1 : l1.length ≤ c1) (h : laws_FnExactDoesLeave.f k l0_0 l1 a2 a3 = some true) :
  Calls Try.prog 6 #[.agg #[.slice A0_0 l0_0.length c0_0], .slice A1 l1.length c1, .int .i64 a2, .int .i64 a3] w fun e w' => e = .returned (.bool true) ∧ Below w.heap.size w w' := by
 have hu24 := Try.underlying24
 have hu29 := Try.underlying29
 have HR0_0 := am hr0_0
 have HC0_0 := am hc0_0
 clear hr0_0 hc0_0
 have HR1 := am hr1
 have HC1 := am hc1
 clear hr1 hc1
 have HB := am (Below.refl w.heap.size w)
 have H : ((laws_szAssembly.f k l0_0 1048576).bind fun t368 => (if t368 < 0 then (some true) else ((laws_szCubeS.f l1 t368).bind fun t369 => (if t369 < 0 then (some true) else ((laws_toAssembly.f k l0_0).bind fun t370 => ((laws_toCubeS.f k l1).bind fun t373 => ((spec_DoesLeave.f k t370 t373 a2 a3).bind fun bt376 => ((laws_toAssembly.f k l0_0).bind fun t378 => ((laws_toCubeS.f k l1).bind fun t382 => ((impl_DoesLeave.f k t378 t382 a2 a3).bind fun bt385 => (if (bt385.1 != bt376.1) = true then (laws_FnExactDoesLeave.j0 k l1 t382 true l0_0 t378) else (laws_FnExactDoesLeave.j0 k l1 t382 (bt385.2 != bt376.2) l0_0 t378)))))))))))) = some true := h
 clear h
 replace H := ob H
 obtain ⟨t368, A50, H⟩ := H
 replace H : (if t368 < 0 then (some true) else ((laws_szCubeS.f l1 t368).bind fun t369 => (if t369 < 0 then (some true) else ((laws_toAssembly.f k l0_0).bind fun t370 => ((laws_toCubeS.f k l1).bind fun t373 => ((spec_DoesLeave.f k t370 t373 a2 a3).bind fun bt376 => ((laws_toAssembly.f k l0_0).bind fun t378 => ((laws_toCubeS.f k l1).bind fun t382 => ((impl_DoesLeave.f k t378 t382 a2 a3).bind fun bt385 => (if (bt385.1 != bt376.1) = true then (laws_FnExactDoesLeave.j0 k l1 t382 true l0_0 t378) else (laws_FnExactDoesLeave.j0 k l1 t382 (bt385.2 != bt376.2) l0_0 t378))))))))))) = some true := H
 have A5 := am A50
 clear A50
 by_cases c6 : t368 < 0
 ·rw [if_pos c6] at H
  have c6b0 : decide (t368 < 0) = true := decide_eq_true c6
  clear c6
  clear H
  go_enter Try.func6, Try.ntmps6
  go_wp2_with (first | ((with_reducible refine gate_dst (N := 4) rfl ?_); refine box_event ?hg (N := 4) ?hd (cs := #[.slice A0_0 l0_0.length c0_0]) (t := 24) ?hr ?_; (case hd => rfl); (case hg => rfl); (case hr => first | (go_simp; done) | (go_simp; rfl)); intro gb367 hg w7 hbox hb; have n0_ := am (Bb6 (by repeat (first | (with_reducible first | exact HB.out | apply Bb1 | apply Bb2 | apply Bb3) | exact HB.out)) hb); have n1_ := am (hbox); have n2_ := am ((by rw [hg]; exact (Bb5 (by repeat (first | (with_reducible first | exact HB.out | apply Bb1 | apply Bb2 | apply Bb3) | exact HB.out))) : w.heap.size ≤ gb367)); have n3_ := n2_; clear HB; have HB := n0_; have BK367 := n1_; have GW367 := n2_; have GE367 := n3_; clear n0_ n1_ n2_ n3_; clear hb hbox hg; have hcz8_0 : w7.cell? ⟨gb367, 0, none⟩ = some (.slice A0_0 l0_0.length c0_0) := (kc BK367.out 0).trans rfl; have hfz8_0 := kf BK367.out 0) | ((with_reducible refine gate_callee (f := 13) rfl ?_); refine goesL_ (some 18) rfl rfl Try.func13 (by kernel_rfl) rfl #[.agg #[.slice A0_0 l0_0.length c0_0], .int .i64 1048576] rfl (by (try simp only [List.map_toArray, List.map_cons, List.map_nil]); first | done | rfl | (simp only [List.length_drop, List.length_take]; rfl)) ?_; (with_reducible refine (laws_szAssembly.calls k _ _ l0_0 1048576 t368 _ ?side1 ?side2 A5.out).mono ?_); (case side1 => repeat (first | exact (Kd.C_below HR0_0.out HB.out) | (with_reducible refine Kd.C_alloc ?_ _) | (with_reducible refine Kd.C_drewN ?_ _) | (with_reducible refine Kd.C_drew ?_))); (case side2 => exact HC0_0.out); rintro e w9 ⟨rfl, hb⟩; refine ⟨_, rfl, ?_⟩; have n0_ := am (Bk4 (g := gb367) (o := .cells #[.slice A0_0 l0_0.length c0_0] 24 (0, 0)) (by (with_reducible repeat (first | refine Bk2 ?_ _ | refine Bk3 ?_ | refine Bk1 ?_ _)); exact BK367.out) hb); have n1_ := am (Bb6 (by repeat (first | (with_reducible first | exact HB.out | apply Bb1 | apply Bb2 | apply Bb3 | refine Bb4 ?_ GE367.out) | exact HB.out)) hb); clear BK367; clear HB; have BK367 := n0_; have HB := n1_; clear n0_ n1_; (try clear hb); (try clear hb2); (try clear hk); (try clear hi)))
  go_ret
  exact ⟨by first | rfl | (simp [errW_none, errW_some] <;> rfl) | (simp [*, errW_none, errW_some] <;> rfl), by repeat (first | (with_reducible first | exact HB.out | apply Bb1 | apply Bb2 | apply Bb3 | refine Bb4 ?_ GE367.out) | exact HB.out)⟩
 ·rw [if_neg c6] at H
  have c6b0 : decide (t368 < 0) = false := decide_eq_false c6
  clear c6
  replace H := ob H
  obtain ⟨t369, A100, H⟩ := H
  replace H : (if t369 < 0 then (some true) else ((laws_toAssembly.f k l0_0).bind fun t370 => ((laws_toCubeS.f k l1).bind fun t373 => ((spec_DoesLeave.f k t370 t373 a2 a3).bind fun bt376 => ((laws_toAssembly.f k l0_0).bind fun t378 => ((laws_toCubeS.f k l1).bind fun t382 => ((impl_DoesLeave.f k t378 t382 a2 a3).bind fun bt385 => (if (bt385.1 != bt376.1) = true then (laws_FnExactDoesLeave.j0 k l1 t382 true l0_0 t378) else (laws_FnExactDoesLeave.j0 k l1 t382 (bt385.2 != bt376.2) l0_0 t378))))))))) = some true := H
  have A10 := am A100
  clear A100
  by_cases c11 : t369 < 0
  ·rw [if_pos c11] at H
   have c11b0 : decide (t369 < 0) = true := decide_eq_true c11
   clear c11
   clear H
   go_enter Try.func6, Try.ntmps6
   go_wp2_with (first | ((with_reducible refine gate_dst (N := 4) rfl ?_); refine box_event ?hg (N := 4) ?hd (cs := #[.slice A0_0 l0_0.length c0_0]) (t := 24) ?hr ?_; (case hd => rfl); (case hg => rfl); (case hr => first | (go_simp; done) | (go_simp; rfl)); intro gb367 hg w12 hbox hb; have n0_ := am (Bb6 (by repeat (first | (with_reducible first | exact HB.out | apply Bb1 | apply Bb2 | apply Bb3) | exact HB.out)) hb); have n1_ := am (hbox); have n2_ := am ((by rw [hg]; exact (Bb5 (by repeat (first | (with_reducible first | exact HB.out | apply Bb1 | apply Bb2 | apply Bb3) | exact HB.out))) : w.heap.size ≤ gb367)); have n3_ := n2_; clear HB; have HB := n0_; have BK367 := n1_; have GW367 := n2_; have GE367 := n3_; clear n0_ n1_ n2_ n3_; clear hb hbox hg; have hcz13_0 : w12.cell? ⟨gb367, 0, none⟩ = some (.slice A0_0 l0_0.length c0_0) := (kc BK367.out 0).trans rfl; have hfz13_0 := kf BK367.out 0) | ((with_reducible refine gate_callee (f := 13) rfl ?_); refine goesL_ (some 18) rfl rfl Try.func13 (by kernel_rfl) rfl #[.agg #[.slice A0_0 l0_0.length c0_0], .int .i64 1048576] rfl (by (try simp only [List.map_toArray, List.map_cons, List.map_nil]); first | done | rfl | (simp only [List.length_drop, List.length_take]; rfl)) ?_; (with_reducible refine (laws_szAssembly.calls k _ _ l0_0 1048576 t368 _ ?side1 ?side2 A5.out).mono ?_); (case side1 => repeat (first | exact (Kd.C_below HR0_0.out HB.out) | (with_reducible refine Kd.C_alloc ?_ _) | (with_reducible refine Kd.C_drewN ?_ _) | (with_reducible refine Kd.C_drew ?_))); (case side2 => exact HC0_0.out); rintro e w14 ⟨rfl, hb⟩; refine ⟨_, rfl, ?_⟩; have n0_ := am (Bk4 (g := gb367) (o := .cells #[.slice A0_0 l0_0.length c0_0] 24 (0, 0)) (by (with_reducible repeat (first | refine Bk2 ?_ _ | refine Bk3 ?_ | refine Bk1 ?_ _)); exact BK367.out) hb); have n1_ := am (Bb6 (by repeat (first | (with_reducible first | exact HB.out | apply Bb1 | apply Bb2 | apply Bb3 | refine Bb4 ?_ GE367.out) | exact HB.out)) hb); clear BK367; clear HB; have BK367 := n0_; have HB := n1_; clear n0_ n1_; (try clear hb); (try clear hb2); (try clear hk); (try clear hi)) | ((with_reducible refine gate_callee (f := 18) rfl ?_); refine goesL_ (some 23) rfl rfl Try.func18 (by kernel_rfl) rfl #[.slice A1 l1.length c1, .int .i64 t368] rfl (by (try simp only [List.map_toArray, List.map_cons, List.map_nil]); first | done | rfl | (simp only [List.length_drop, List.length_take]; rfl)) ?_; (with_reducible refine (laws_szCubeS.calls _ _ l1 t368 t369 _ ?side1 ?side2 A10.out).mono ?_); (case side1 => repeat (first | exact (Kd.C_below HR1.out HB.out) | (with_reducible refine Kd.C_alloc ?_ _) | (with_reducible refine Kd.C_drewN ?_ _) | (with_reducible refine Kd.C_drew ?_))); (case side2 => exact HC1.out); rintro e w' ⟨rfl, ⟨nd, rfl⟩⟩; refine ⟨_, rfl, ?_⟩))
   go_ret
   exact ⟨by first | rfl | (simp [errW_none, errW_some] <;> rfl) | (simp [*, errW_none, errW_some] <;> rfl), by repeat (first | (with_reducible first | exact HB.out | apply Bb1 | apply Bb2 | apply Bb3 | refine Bb4 ?_ GE367.out) | exact HB.out)⟩
  ·rw [if_neg c11] at H
   have c11b0 : decide (t369 < 0) = false := decide_eq_false c11
   clear c11
   replace H := ob H
   obtain ⟨t370, A150, H⟩ := H
   replace H : ((laws_toCubeS.f k l1).bind fun t373 => ((spec_DoesLeave.f k t370 t373 a2 a3).bind fun bt376 => ((laws_toAssembly.f k l0_0).bind fun t378 => ((laws_toCubeS.f k l1).bind fun t382 => ((impl_DoesLeave.f k t378 t382 a2 a3).bind fun bt385 => (if (bt385.1 != bt376.1) = true then (laws_FnExactDoesLeave.j0 k l1 t382 true l0_0 t378) else (laws_FnExactDoesLeave.j0 k l1 t382 (bt385.2 != bt376.2) l0_0 t378))))))) = some true := H
   have A15 := am A150
   clear A150
   replace H := ob H
   obtain ⟨t373, A160, H⟩ := H
   replace H : ((spec_DoesLeave.f k t370 t373 a2 a3).bind fun bt376 => ((laws_toAssembly.f k l0_0).bind fun t378 => ((laws_toCubeS.f k l1).bind fun t382 => ((impl_DoesLeave.f k t378 t382 a2 a3).bind fun bt385 => (if (bt385.1 != bt376.1) = true then (laws_FnExactDoesLeave.j0 k l1 t382 true l0_0 t378) else (laws_FnExactDoesLeave.j0 k l1 t382 (bt385.2 != bt376.2) l0_0 t378)))))) = some true := H
   have A16 := am A160
   clear A160
   replace H := ob H
   obtain ⟨⟨t376, t377⟩, A170, H⟩ := H
   replace H : ((laws_toAssembly.f k l0_0).bind fun t378 => ((laws_toCubeS.f k l1).bind fun t382 => ((impl_DoesLeave.f k t378 t382 a2 a3).bind fun bt385 => (if (bt385.1 != t376) = true then (laws_FnExactDoesLeave.j0 k l1 t382 true l0_0 t378) else (laws_FnExactDoesLeave.j0 k l1 t382 (bt385.2 != t377) l0_0 t378))))) = some true := H
   have A17 := am A170
   clear A170
   replace H := ob H
   obtain ⟨t378, A180, H⟩ := H
   replace H : ((laws_toCubeS.f k l1).bind fun t382 => ((impl_DoesLeave.f k t378 t382 a2 a3).bind fun bt385 => (if (bt385.1 != t376) = true then (laws_FnExactDoesLeave.j0 k l1 t382 true l0_0 t378) else (laws_FnExactDoesLeave.j0 k l1 t382 (bt385.2 != t377) l0_0 t378)))) = some true := H
   have A18 := am A180
   clear A180
   replace H := ob H
   obtain ⟨t382, A190, H⟩ := H
   replace H : ((impl_DoesLeave.f k t378 t382 a2 a3).bind fun bt385 => (if (bt385.1 != t376) = true then (laws_FnExactDoesLeave.j0 k l1 t382 true l0_0 t378) else (laws_FnExactDoesLeave.j0 k l1 t382 (bt385.2 != t377) l0_0 t378))) = some true := H
   have A19 := am A190
   clear A190
   replace H := ob H
   obtain ⟨⟨t385, t386⟩, A200, H⟩ := H
   replace H : (if (t385 != t376) = true then (laws_FnExactDoesLeave.j0 k l1 t382 true l0_0 t378) else (laws_FnExactDoesLeave.j0 k l1 t382 (t386 != t377) l0_0 t378)) = some true := H
   have A20 := am A200
   clear A200
   have HC21 := am H
   clear H
   go_enter Try.func6, Try.ntmps6
   go_upto_region 12 with (first | ((with_reducible refine gate_dst (N := 4) rfl ?_); refine box_event ?hg (N := 4) ?hd (cs := #[.slice A0_0 l0_0.length c0_0]) (t := 24) ?hr ?_; (case hd => rfl); (case hg => rfl); (case hr => first | (go_simp; done) | (go_simp; rfl)); intro gb367 hg w22 hbox hb; have n0_ := am (Bb6 (by repeat (first | (with_reducible first | exact HB.out | apply Bb1 | apply Bb2 | apply Bb3) | exact HB.out)) hb); have n1_ := am (hbox); have n2_ := am ((by rw [hg]; exact (Bb5 (by repeat (first | (with_reducible first | exact HB.out | apply Bb1 | apply Bb2 | apply Bb3) | exact HB.out))) : w.heap.size ≤ gb367)); have n3_ := n2_; clear HB; have HB := n0_; have BK367 := n1_; have GW367 := n2_; have GE367 := n3_; clear n0_ n1_ n2_ n3_; clear hb hbox hg; have hcz23_0 : w22.cell? ⟨gb367, 0, none⟩ = some (.slice A0_0 l0_0.length c0_0) := (kc BK367.out 0).trans rfl; have hfz23_0 := kf BK367.out 0) | ((with_reducible refine gate_callee (f := 13) rfl ?_); refine goesL_ (some 18) rfl rfl Try.func13 (by kernel_rfl) rfl #[.agg #[.slice A0_0 l0_0.length c0_0], .int .i64 1048576] rfl (by (try simp only [List.map_toArray, List.map_cons, List.map_nil]); first | done | rfl | (simp only [List.length_drop, List.length_take]; rfl)) ?_; (with_reducible refine (laws_szAssembly.calls k _ _ l0_0 1048576 t368 _ ?side1 ?side2 A5.out).mono ?_); (case side1 => repeat (first | exact (Kd.C_below HR0_0.out HB.out) | (with_reducible refine Kd.C_alloc ?_ _) | (with_reducible refine Kd.C_drewN ?_ _) | (with_reducible refine Kd.C_drew ?_))); (case side2 => exact HC0_0.out); rintro e w24 ⟨rfl, hb⟩; refine ⟨_, rfl, ?_⟩; have n0_ := am (Bk4 (g := gb367) (o := .cells #[.slice A0_0 l0_0.length c0_0] 24 (0, 0)) (by (with_reducible repeat (first | refine Bk2 ?_ _ | refine Bk3 ?_ | refine Bk1 ?_ _)); exact BK367.out) hb); have n1_ := am (Bb6 (by repeat (first | (with_reducible first | exact HB.out | apply Bb1 | apply Bb2 | apply Bb3 | refine Bb4 ?_ GE367.out) | exact HB.out)) hb); clear BK367; clear HB; have BK367 := n0_; have HB := n1_; clear n0_ n1_; (try clear hb); (try clear hb2); (try clear hk); (try clear hi)) | ((with_reducible refine gate_callee (f := 18) rfl ?_); refine goesL_ (some 23) rfl rfl Try.func18 (by kernel_rfl) rfl #[.slice A1 l1.length c1, .int .i64 t368] rfl (by (try simp only [List.map_toArray, List.map_cons, List.map_nil]); first | done | rfl | (simp only [List.length_drop, List.length_take]; rfl)) ?_; (with_reducible refine (laws_szCubeS.calls _ _ l1 t368 t369 _ ?side1 ?side2 A10.out).mono ?_); (case side1 => repeat (first | exact (Kd.C_below HR1.out HB.out) | (with_reducible refine Kd.C_alloc ?_ _) | (with_reducible refine Kd.C_drewN ?_ _) | (with_reducible refine Kd.C_drew ?_))); (case side2 => exact HC1.out); rintro e w' ⟨rfl, ⟨nd, rfl⟩⟩; refine ⟨_, rfl, ?_⟩; (try (rw [drewN_self w24]; generalize hq_ : World.drewN w24 _ = w24; have n0_ : Aside0 (w24.heap[gb367]? = some (.cells #[.slice A0_0 l0_0.length c0_0] 24 (0, 0))) := ⟨by rw [← hq_]; exact (by (with_reducible repeat (first | refine Bk2 ?_ _ | refine Bk3 ?_ | refine Bk1 ?_ _)); exact BK367.out)⟩; have n1_ : Aside0 (Below w.heap.size w w24) := ⟨by rw [← hq_]; exact (by repeat (first | (with_reducible first | exact HB.out | apply Bb1 | apply Bb2 | apply Bb3 | refine Bb4 ?_ GE367.out) | exact HB.out))⟩; clear BK367 HB hq_; have BK367 := n0_; have HB := n1_; clear n0_ n1_)); have hcz25_0 : w24.cell? ⟨gb367, 0, none⟩ = some (.slice A0_0 l0_0.length c0_0) := (kc BK367.out 0).trans rfl; have hfz25_0 := kf BK367.out 0) | ((with_reducible refine gate_callee (f := 15) rfl ?_); refine goesL_ (some 28) rfl rfl Try.func15 (by kernel_rfl) rfl #[.agg #[.slice A0_0 l0_0.length c0_0]] rfl (by (try simp only [List.map_toArray, List.map_cons, List.map_nil]); first | done | rfl | (simp only [List.length_drop, List.length_take]; rfl)) ?_; (with_reducible refine (laws_toAssembly.calls k _ _ l0_0 t370 _ ?side1 ?side2 A15.out).mono ?_); (case side1 => repeat (first | exact (Kd.C_below HR0_0.out HB.out) | (with_reducible refine Kd.C_alloc ?_ _) | (with_reducible refine Kd.C_drewN ?_ _) | (with_reducible refine Kd.C_drew ?_))); (case side2 => exact HC0_0.out); rintro e w26 ⟨v371, rfl, ho0, hb⟩; refine ⟨_, rfl, ?_⟩; have n0_ := am (Kd.S_lower ho0 (Bb5 (by repeat (first | (with_reducible first | exact HB.out | apply Bb1 | apply Bb2 | apply Bb3 | refine Bb4 ?_ GE367.out) | exact HB.out)))); have n1_ := am (Bk4 (g := gb367) (o := .cells #[.slice A0_0 l0_0.length c0_0] 24 (0, 0)) (by (with_reducible repeat (first | refine Bk2 ?_ _ | refine Bk3 ?_ | refine Bk1 ?_ _)); exact BK367.out) hb); have n2_ := am (Bb6 (by repeat (first | (with_reducible first | exact HB.out | apply Bb1 | apply Bb2 | apply Bb3 | refine Bb4 ?_ GE367.out) | exact HB.out)) hb); clear BK367; clear HB; have HO372 := n0_; have BK367 := n1_; have HB := n2_; clear n0_ n1_ n2_; (try clear hb); (try clear hb2); (try clear hk); (try clear hi); (try clear ho0)) | ((with_reducible refine gate_callee (f := 20) rfl ?_); refine goesL_ (some 30) rfl rfl Try.func20 (by kernel_rfl) rfl #[.slice A1 l1.length c1] rfl (by (try simp only [List.map_toArray, List.map_cons, List.map_nil]); first | done | rfl | (simp only [List.length_drop, List.length_take]; rfl)) ?_; (with_reducible refine (laws_toCubeS.calls k _ _ l1 t373 _ ?side1 ?side2 A16.out).mono ?_); (case side1 => repeat (first | exact (Kd.C_below HR1.out HB.out) | (with_reducible refine Kd.C_alloc ?_ _) | (with_reducible refine Kd.C_drewN ?_ _) | (with_reducible refine Kd.C_drew ?_))); (case side2 => exact HC1.out); rintro e w27 ⟨v374, rfl, ho0, hb⟩; refine ⟨_, rfl, ?_⟩; have n0_ := am (Kd.S_elder' (by (with_reducible repeat (first | apply Kd.S_alloc | apply Kd.S_drewN | apply Kd.S_drew)); exact HO372.out) (Kd.R_base ho0) hb); have n1_ := am (Kd.R_lower ho0 (Bb5 (by repeat (first | (with_reducible first | exact HB.out | apply Bb1 | apply Bb2 | apply Bb3 | refine Bb4 ?_ GE367.out) | exact HB.out)))); have n2_ := am (Bk4 (g := gb367) (o := .cells #[.slice A0_0 l0_0.length c0_0] 24 (0, 0)) (by (with_reducible repeat (first | refine Bk2 ?_ _ | refine Bk3 ?_ | refine Bk1 ?_ _)); exact BK367.out) hb); have n3_ := am (Bb6 (by repeat (first | (with_reducible first | exact HB.out | apply Bb1 | apply Bb2 | apply Bb3 | refine Bb4 ?_ GE367.out) | exact HB.out)) hb); clear HO372; clear BK367; clear HB; have HO372 := n0_; have HO375 := n1_; have BK367 := n2_; have HB := n3_; clear n0_ n1_ n2_ n3_; (try clear hb); (try clear hb2); (try clear hk); (try clear hi); (try clear ho0); obtain ⟨Ao28, co28, eo28⟩ := Kd.S_slice HO372.out; subst eo28; obtain ⟨Ao29, co29, eo29⟩ := Kd.R_slice HO375.out; subst eo29) | ((with_reducible refine gate_callee (f := 25) rfl ?_); refine goesL_ (some 33) rfl rfl Try.func25 (by kernel_rfl) rfl #[.agg #[.slice Ao28 t370.length co28], .slice Ao29 t373.length co29, .int .i64 a2, .int .i64 a3] rfl (by (try simp only [List.map_toArray, List.map_cons, List.map_nil]); first | done | rfl | (simp only [List.length_drop, List.length_take]; rfl)) ?_; (with_reducible refine (spec_DoesLeave.calls k _ _ t370 _ _ t373 a2 a3 t376 t377 _ ?side1 ?side2 ?side3 ?side4 A17.out).mono ?_); (case side1 => repeat (first | exact (Kd.S_reads' HO372.out).2.2 | (with_reducible refine Kd.C_alloc ?_ _) | (with_reducible refine Kd.C_drewN ?_ _) | (with_reducible refine Kd.C_drew ?_))); (case side2 => exact (Kd.S_reads' HO372.out).2.1); (case side3 => repeat (first | exact (Kd.R_reads' HO375.out).2.2 | (with_reducible refine Kd.C_alloc ?_ _) | (with_reducible refine Kd.C_drewN ?_ _) | (with_reducible refine Kd.C_drew ?_))); (case side4 => exact (Kd.R_reads' HO375.out).2.1); rintro e w30 ⟨rfl, hb⟩; refine ⟨_, rfl, ?_⟩; have n0_ := am (Kd.S_below (by (with_reducible repeat (first | apply Kd.S_alloc | apply Kd.S_drewN | apply Kd.S_drew)); exact HO372.out) hb); have n1_ := am (Kd.R_below (by (with_reducible repeat (first | apply Kd.R_alloc | apply Kd.R_drewN | apply Kd.R_drew)); exact HO375.out) hb); have n2_ := am (Bk4 (g := gb367) (o := .cells #[.slice A0_0 l0_0.length c0_0] 24 (0, 0)) (by (with_reducible repeat (first | refine Bk2 ?_ _ | refine Bk3 ?_ | refine Bk1 ?_ _)); exact BK367.out) hb); have n3_ := am (Bb6 (by repeat (first | (with_reducible first | exact HB.out | apply Bb1 | apply Bb2 | apply Bb3 | refine Bb4 ?_ GE367.out) | exact HB.out)) hb); clear HO372; clear HO375; clear BK367; clear HB; have HO372 := n0_; have HO375 := n1_; have BK367 := n2_; have HB := n3_; clear n0_ n1_ n2_ n3_; (try clear hb); (try clear hb2); (try clear hk); (try clear hi); have hcz31_0 : w30.cell? ⟨gb367, 0, none⟩ = some (.slice A0_0 l0_0.length c0_0) := (kc BK367.out 0).trans rfl; have hfz31_0 := kf BK367.out 0) | ((with_reducible refine gate_callee (f := 15) rfl ?_); refine goesL_ (some 37) rfl rfl Try.func15 (by kernel_rfl) rfl #[.agg #[.slice A0_0 l0_0.length c0_0]] rfl (by (try simp only [List.map_toArray, List.map_cons, List.map_nil]); first | done | rfl | (simp only [List.length_drop, List.length_take]; rfl)) ?_; (with_reducible refine (laws_toAssembly.calls k _ _ l0_0 t378 _ ?side1 ?side2 A18.out).mono ?_); (case side1 => repeat (first | exact (Kd.C_below HR0_0.out HB.out) | (with_reducible refine Kd.C_alloc ?_ _) | (with_reducible refine Kd.C_drewN ?_ _) | (with_reducible refine Kd.C_drew ?_))); (case side2 => exact HC0_0.out); rintro e w32 ⟨v379, rfl, ho0, hb⟩; refine ⟨_, rfl, ?_⟩; have n0_ := am (Kd.S_elder' (by (with_reducible repeat (first | apply Kd.S_alloc | apply Kd.S_drewN | apply Kd.S_drew)); exact HO372.out) (Kd.S_base ho0) hb); have n1_ := am (Kd.R_below (by (with_reducible repeat (first | apply Kd.R_alloc | apply Kd.R_drewN | apply Kd.R_drew)); exact HO375.out) hb); have n2_ := am (Kd.S_lower (Kd.S_new' (Kd.S_new' ho0 (Kd.S_lt (by (with_reducible repeat (first | apply Kd.S_alloc | apply Kd.S_drewN | apply Kd.S_drew)); exact HO372.out))) (Kd.R_lt (by (with_reducible repeat (first | apply Kd.R_alloc | apply Kd.R_drewN | apply Kd.R_drew)); exact HO375.out))) (Bb5 (by repeat (first | (with_reducible first | exact HB.out | apply Bb1 | apply Bb2 | apply Bb3 | refine Bb4 ?_ GE367.out) | exact HB.out)))); have n3_ := am (Bk4 (g := gb367) (o := .cells #[.slice A0_0 l0_0.length c0_0] 24 (0, 0)) (by (with_reducible repeat (first | refine Bk2 ?_ _ | refine Bk3 ?_ | refine Bk1 ?_ _)); exact BK367.out) hb); have n4_ := am (Bb6 (by repeat (first | (with_reducible first | exact HB.out | apply Bb1 | apply Bb2 | apply Bb3 | refine Bb4 ?_ GE367.out) | exact HB.out)) hb); clear HO372; clear HO375; clear BK367; clear HB; have HO372 := n0_; have HO375 := n1_; have HO380 := n2_; have BK367 := n3_; have HB := n4_; clear n0_ n1_ n2_ n3_ n4_; (try clear hb); (try clear hb2); (try clear hk); (try clear hi); (try clear ho0)) | ((with_reducible refine gate_dst (N := 12) rfl ?_); refine box_event ?hg (N := 12) ?hd (cs := #[.slice none 0 0]) (t := 29) ?hr ?_; (case hd => rfl); (case hg => rfl); (case hr => first | (go_simp; done) | (go_simp; rfl)); intro gb381 hg w33 hbox hb; have n0_ := am (Kd.S_below (by (with_reducible repeat (first | apply Kd.S_alloc | apply Kd.S_drewN | apply Kd.S_drew)); exact HO372.out) hb); have n1_ := am (Kd.R_below (by (with_reducible repeat (first | apply Kd.R_alloc | apply Kd.R_drewN | apply Kd.R_drew)); exact HO375.out) hb); have n2_ := am (Kd.S_below (by (with_reducible repeat (first | apply Kd.S_alloc | apply Kd.S_drewN | apply Kd.S_drew)); exact HO380.out) hb); have n3_ := am (Bk4 (g := gb367) (o := .cells #[.slice A0_0 l0_0.length c0_0] 24 (0, 0)) (by (with_reducible repeat (first | refine Bk2 ?_ _ | refine Bk3 ?_ | refine Bk1 ?_ _)); exact BK367.out) hb); have n4_ := am (Bb6 (by repeat (first | (with_reducible first | exact HB.out | apply Bb1 | apply Bb2 | apply Bb3 | refine Bb4 ?_ GE367.out) | exact HB.out)) hb); have n5_ := am (hbox); have n6_ := am ((by rw [hg]; exact (Bb5 (by repeat (first | (with_reducible first | exact HB.out | apply Bb1 | apply Bb2 | apply Bb3 | refine Bb4 ?_ GE367.out) | exact HB.out))) : w.heap.size ≤ gb381)); have n7_ := n6_; have n8_ := am ((by rw [hg]; exact nl (Bk5 (g := gb367) (o := .cells #[.slice A0_0 l0_0.length c0_0] 24 (0, 0)) (by (with_reducible repeat (first | refine Bk2 ?_ _ | refine Bk3 ?_ | refine Bk1 ?_ _)); exact BK367.out)) : gb367 ≠ gb381)); have n9_ := am ((by rw [hg]; exact ng (Bk5 (g := gb367) (o := .cells #[.slice A0_0 l0_0.length c0_0] 24 (0, 0)) (by (with_reducible repeat (first | refine Bk2 ?_ _ | refine Bk3 ?_ | refine Bk1 ?_ _)); exact BK367.out)) : gb381 ≠ gb367)); clear HO372; clear HO375; clear HO380; clear BK367; clear HB; have HO372 := n0_; have HO375 := n1_; have HO380 := n2_; have BK367 := n3_; have HB := n4_; have BK381 := n5_; have GW381 := n6_; have GE381 := n7_; have NB367_381 := n8_; have NB381_367 := n9_; clear n0_ n1_ n2_ n3_ n4_ n5_ n6_ n7_ n8_ n9_; clear hb hbox hg; obtain ⟨Ao34, co34, eo34⟩ := Kd.S_slice HO380.out; subst eo34; have hnb35 := NB381_367.out; have hnc35 := NB367_381.out; have hcz36_0 : w33.cell? ⟨gb381, 0, none⟩ = some (.slice none 0 0) := (kc BK381.out 0).trans rfl; have hfz36_0 := kf BK381.out 0) | ((with_reducible refine gate_callee (f := 20) rfl ?_); refine goesL_ (some 39) rfl rfl Try.func20 (by kernel_rfl) rfl #[.slice A1 l1.length c1] rfl (by (try simp only [List.map_toArray, List.map_cons, List.map_nil]); first | done | rfl | (simp only [List.length_drop, List.length_take]; rfl)) ?_; (with_reducible refine (laws_toCubeS.calls k _ _ l1 t382 _ ?side1 ?side2 A19.out).mono ?_); (case side1 => exact Kd.C_below HR1.out (by repeat (first | (with_reducible first | exact HB.out | apply Bb1 | apply Bb2 | apply Bb3 | refine Bb4 ?_ GE367.out | refine Bb4 ?_ GE381.out) | exact HB.out))); (case side2 => exact HC1.out); rintro e w37 ⟨v383, rfl, ho0, hb⟩; refine ⟨_, rfl, ?_⟩; have n0_ := am (Kd.S_elder' (by (with_reducible repeat (first | apply Kd.S_alloc | apply Kd.S_drewN | apply Kd.S_drew)); exact (Kd.S_mono (Kd.S_far (p := ⟨gb381, 0, none⟩) (Kd.S_types HO372.out BK381.out (by decide)) (fun _ hk => hk.2) (.slice Ao34 t378.length co34)) (fun _ h_ => h_.1))) (Kd.R_base ho0) hb); have n1_ := am (Kd.R_elder' (by (with_reducible repeat (first | apply Kd.R_alloc | apply Kd.R_drewN | apply Kd.R_drew)); exact (Kd.R_mono (Kd.R_far (p := ⟨gb381, 0, none⟩) (Kd.R_types HO375.out BK381.out (by decide)) (fun _ hk => hk.2) (.slice Ao34 t378.length co34)) (fun _ h_ => h_.1))) (Kd.R_base ho0) hb); have n2_ := am (Kd.S_elder' (by (with_reducible repeat (first | apply Kd.S_alloc | apply Kd.S_drewN | apply Kd.S_drew)); exact (Kd.S_mono (Kd.S_far (p := ⟨gb381, 0, none⟩) (Kd.S_types HO380.out BK381.out (by decide)) (fun _ hk => hk.2) (.slice Ao34 t378.length co34)) (fun _ h_ => h_.1))) (Kd.R_base ho0) hb); have n3_ := am (Kd.R_lower (Kd.R_new' ho0 (Kd.R_lt (by (with_reducible repeat (first | apply Kd.R_alloc | apply Kd.R_drewN | apply Kd.R_drew)); exact (Kd.R_mono (Kd.R_far (p := ⟨gb381, 0, none⟩) (Kd.R_types HO375.out BK381.out (by decide)) (fun _ hk => hk.2) (.slice Ao34 t378.length co34)) (fun _ h_ => h_.1))))) (Bb5 (by repeat (first | (with_reducible first | exact HB.out | apply Bb1 | apply Bb2 | apply Bb3 | refine Bb4 ?_ GE367.out | refine Bb4 ?_ GE381.out) | exact HB.out)))); have n4_ := am (Bk4 (g := gb367) (o := .cells #[.slice A0_0 l0_0.length c0_0] 24 (0, 0)) (by (with_reducible repeat (first | refine Bk2 ?_ _ | refine Bk3 ?_ | refine Bk1 ?_ _)); refine blk_far ?_ NB367_381.out _; (with_reducible repeat (first | refine Bk2 ?_ _ | refine Bk3 ?_ | refine Bk1 ?_ _)); exact BK367.out) hb); have n5_ := am (Bk4 (g := gb381) (o := .cells #[.slice Ao34 t378.length co34] 29 (0, 0)) (by (with_reducible repeat (first | refine Bk2 ?_ _ | refine Bk3 ?_ | refine Bk1 ?_ _)); refine blk_put (cs := #[.slice none 0 0]) ?_ 0 _ rfl; (with_reducible repeat (first | refine Bk2 ?_ _ | refine Bk3 ?_ | refine Bk1 ?_ _)); exact BK381.out) hb); have n6_ := am (Bb6 (by repeat (first | (with_reducible first | exact HB.out | apply Bb1 | apply Bb2 | apply Bb3 | refine Bb4 ?_ GE367.out | refine Bb4 ?_ GE381.out) | exact HB.out)) hb); clear HO372; clear HO375; clear HO380; clear BK367; clear BK381; clear HB; have HO372 := n0_; have HO375 := n1_; have HO380 := n2_; have HO384 := n3_; have BK367 := n4_; have BK381 := n5_; have HB := n6_; clear n0_ n1_ n2_ n3_ n4_ n5_ n6_; (try clear hb); (try clear hb2); (try clear hk); (try clear hi); (try clear ho0); have hcz38_0 : w37.cell? ⟨gb381, 0, none⟩ = some (.slice Ao34 t378.length co34) := (kc BK381.out 0).trans rfl; have hfz38_0 := kf BK381.out 0; obtain ⟨Ao39, co39, eo39⟩ := Kd.R_slice HO384.out; subst eo39) | ((with_reducible refine gate_callee (f := 26) rfl ?_); refine goesL_ (some 45) rfl rfl Try.func26 (by kernel_rfl) rfl #[.agg #[.slice Ao34 t378.length co34], .slice Ao39 t382.length co39, .int .i64 a2, .int .i64 a3] rfl (by (try simp only [List.map_toArray, List.map_cons, List.map_nil]); first | done | rfl | (simp only [List.length_drop, List.length_take]; rfl)) ?_; (with_reducible refine (impl_DoesLeave.calls k _ _ t378 _ _ t382 a2 a3 t385 t386 _ ?side1 ?side2 ?side3 ?side4 A20.out).mono ?_); (case side1 => repeat (first | exact (Kd.S_reads' HO380.out).2.2 | (with_reducible refine Kd.C_alloc ?_ _) | (with_reducible refine Kd.C_drewN ?_ _) | (with_reducible refine Kd.C_drew ?_))); (case side2 => exact (Kd.S_reads' HO380.out).2.1); (case side3 => repeat (first | exact (Kd.R_reads' HO384.out).2.2 | (with_reducible refine Kd.C_alloc ?_ _) | (with_reducible refine Kd.C_drewN ?_ _) | (with_reducible refine Kd.C_drew ?_))); (case side4 => exact (Kd.R_reads' HO384.out).2.1); rintro e w40 ⟨rfl, hb⟩; refine ⟨_, rfl, ?_⟩; have n0_ := am (Kd.S_below (by (with_reducible repeat (first | apply Kd.S_alloc | apply Kd.S_drewN | apply Kd.S_drew)); exact HO372.out) hb); have n1_ := am (Kd.R_below (by (with_reducible repeat (first | apply Kd.R_alloc | apply Kd.R_drewN | apply Kd.R_drew)); exact HO375.out) hb); have n2_ := am (Kd.S_below (by (with_reducible repeat (first | apply Kd.S_alloc | apply Kd.S_drewN | apply Kd.S_drew)); exact HO380.out) hb); have n3_ := am (Kd.R_below (by (with_reducible repeat (first | apply Kd.R_alloc | apply Kd.R_drewN | apply Kd.R_drew)); exact HO384.out) hb); have n4_ := am (Bk4 (g := gb367) (o := .cells #[.slice A0_0 l0_0.length c0_0] 24 (0, 0)) (by (with_reducible repeat (first | refine Bk2 ?_ _ | refine Bk3 ?_ | refine Bk1 ?_ _)); exact BK367.out) hb); have n5_ := am (Bk4 (g := gb381) (o := .cells #[.slice Ao34 t378.length co34] 29 (0, 0)) (by (with_reducible repeat (first | refine Bk2 ?_ _ | refine Bk3 ?_ | refine Bk1 ?_ _)); exact BK381.out) hb); have n6_ := am (Bb6 (by repeat (first | (with_reducible first | exact HB.out | apply Bb1 | apply Bb2 | apply Bb3 | refine Bb4 ?_ GE367.out | refine Bb4 ?_ GE381.out) | exact HB.out)) hb); clear HO372; clear HO375; clear HO380; clear HO384; clear BK367; clear BK381; clear HB; have HO372 := n0_; have HO375 := n1_; have HO380 := n2_; have HO384 := n3_; have BK367 := n4_; have BK381 := n5_; have HB := n6_; clear n0_ n1_ n2_ n3_ n4_ n5_ n6_; (try clear hb); (try clear hb2); (try clear hk); (try clear hi)))
   (try simp only [Act.put, sa])
   go_cut [55] (fun v55 wc => ∃ (kq : Nat) (x55_20 : Bool), v55 = .bool x55_20 ∧ Aside0 (laws_FnExactDoesLeave.j0 kq l1 t382 x55_20 l0_0 t378 = some true) ∧ Aside0 (kq ≤ k) ∧ Aside0 (Kd.R k71 71 wc w.heap.size (fun _ => True) (.slice Ao39 t382.length co39) t382) ∧ Aside0 (Kd.S (Kd.slice 71 k71) 36 wc w.heap.size (fun k_ => some k_ ≠ ((.slice Ao39 t382.length co39) : Value).ownBlock) (.slice Ao34 t378.length co34) t378) ∧ Aside0 (wc.heap[gb367]? = some (.cells #[(.slice A0_0 l0_0.length c0_0)] 24 (0, 0))) ∧ Aside0 (wc.heap[gb381]? = some (.cells #[(.slice Ao34 t378.length co34)] 29 (0, 0))) ∧ Aside0 (Below w.heap.size w wc))
   case first =>
    have H := HC21.out
    clear HC21
    by_cases c41 : (t385 != t376) = true
    ·rw [if_pos c41] at H
     have c41b0 : (t385 != t376) = true := c41
     (try (have c41b1 : decide (t385 = t376) = false := by simpa using c41))
     (try (have c41b2 : (t385 == t376) = false := by simpa using c41))
     (try (have c41b3 : ¬ (t385 = t376) := by simpa using c41))
     clear c41
     (first | rw [c41b0] | (simp only [i64_w, i32_w]; rw [c41b0]) | skip)
     have H' := am H
     clear H
     go_wp2
     go_meet
     case rel => exact ⟨_, (true), (by first | rfl | (simp; done) | (simp [*]; done)), H', ⟨by first | omega | exact Nat.le_refl _⟩, ⟨by (with_reducible repeat (first | apply Kd.R_alloc | apply Kd.R_drewN | apply Kd.R_drew)); exact Kd.R_mono HO384.out (fun _ hk => trivial)⟩, ⟨by (with_reducible repeat (first | apply Kd.S_alloc | apply Kd.S_drewN | apply Kd.S_drew)); exact Kd.S_mono HO380.out (fun _ hk => hk.2)⟩, ⟨by (with_reducible repeat (first | refine Bk2 ?_ _ | refine Bk3 ?_ | refine Bk1 ?_ _)); exact BK367.out⟩, ⟨by (with_reducible repeat (first | refine Bk2 ?_ _ | refine Bk3 ?_ | refine Bk1 ?_ _)); exact BK381.out⟩, ⟨by repeat (first | (with_reducible first | exact HB.out | apply Bb1 | apply Bb2 | apply Bb3 | refine Bb4 ?_ GE367.out | refine Bb4 ?_ GE381.out) | exact HB.out)⟩⟩
    ·rw [if_neg c41] at H
     have c41b0 : (t385 != t376) = false := by simpa using c41
     (try (have c41b1 : decide (t385 = t376) = true := by simpa using c41))
     (try (have c41b2 : (t385 == t376) = true := by simpa using c41))
     clear c41
     (first | rw [c41b0] | (simp only [i64_w, i32_w]; rw [c41b0]) | skip)
     have H' := am H
     clear H
     go_wp2
     go_meet
     case rel => exact ⟨_, ((t386 != t377)), (by first | rfl | (simp; done) | (simp [*]; done)), H', ⟨by first | omega | exact Nat.le_refl _⟩, ⟨by (with_reducible repeat (first | apply Kd.R_alloc | apply Kd.R_drewN | apply Kd.R_drew)); exact Kd.R_mono HO384.out (fun _ hk => trivial)⟩, ⟨by (with_reducible repeat (first | apply Kd.S_alloc | apply Kd.S_drewN | apply Kd.S_drew)); exact Kd.S_mono HO380.out (fun _ hk => hk.2)⟩, ⟨by (with_reducible repeat (first | refine Bk2 ?_ _ | refine Bk3 ?_ | refine Bk1 ?_ _)); exact BK367.out⟩, ⟨by (with_reducible repeat (first | refine Bk2 ?_ _ | refine Bk3 ?_ | refine Bk1 ?_ _)); exact BK381.out⟩, ⟨by repeat (first | (with_reducible first | exact HB.out | apply Bb1 | apply Bb2 | apply Bb3 | refine Bb4 ?_ GE367.out | refine Bb4 ?_ GE381.out) | exact HB.out)⟩⟩
   case rest =>
    clear HC21
    try clear c1
    try clear c2
    try clear p2
    try clear c3
    try clear c4
    try clear c6
    try clear c6b0
    try clear c11
    try clear c11b0
    try clear c13
    try clear c15
    try clear c18
    try clear c20
    try clear c25
    try clear c26
    try clear c35
    try clear c41
    try clear c41b0
    try clear c41b1
    try clear c41b2
    try clear hcz13_0
    try clear hcz23_0
    try clear hcz25_0
    try clear hcz31_0
    try clear hcz36_0
    try clear hcz38_0
    try clear hcz8_0
    try clear hfz13_0
    try clear hfz23_0
    try clear hfz25_0
    try clear hfz31_0
    try clear hfz36_0
    try clear hfz38_0
    try clear hfz8_0
    obtain ⟨kq, x55_20, rfl, HA, HJ20, HO_13, HO_382000, BK367, BK381, HB⟩ := hcut
    cases kq with
    | zero => exact absurd HA.out (by simp [laws_FnExactDoesLeave.j0])
    | succ kj20 =>
     have H := HA.out
     clear HA
     simp only [laws_FnExactDoesLeave.j0] at H
     by_cases c42 : x55_20 = true
     ·subst c42
      have H1 : (some false) = some true := by first | (rw [if_pos rfl] at H; exact H) | rfl
      clear H
      have H := H1
      clear H1
      exact absurd H (by simp)
     ·replace c42 := ef c42
      subst c42
      have H1 : ((laws_toAssembly.f kj20 l0_0).bind fun t387 => ((laws_eqAssembly.f kj20 t378 t387).bind fun t390 => (if t390 = true then ((laws_toCubeS.f kj20 l1).bind fun t391 => ((laws_eqCubeS.f kj20 t382 t391).bind fun t394 => (if t394 = true then (some true) else (some false)))) else (some false)))) = some true := by first | (rw [if_neg (show ¬ (false = true) by decide)] at H; exact H) | rfl
      clear H
      have H := H1
      clear H1
      replace H := ob H
      obtain ⟨t387, A430, H⟩ := H
      replace H : ((laws_eqAssembly.f kj20 t378 t387).bind fun t390 => (if t390 = true then ((laws_toCubeS.f kj20 l1).bind fun t391 => ((laws_eqCubeS.f kj20 t382 t391).bind fun t394 => (if t394 = true then (some true) else (some false)))) else (some false))) = some true := H
      have A43 := am A430
      clear A430
      replace H := ob H
      obtain ⟨t390, A440, H⟩ := H
      replace H : (if t390 = true then ((laws_toCubeS.f kj20 l1).bind fun t391 => ((laws_eqCubeS.f kj20 t382 t391).bind fun t394 => (if t394 = true then (some true) else (some false)))) else (some false)) = some true := H
      have A44 := am A440
      clear A440
      by_cases c45 : t390 = true
      ·subst c45
       have H1 : ((laws_toCubeS.f kj20 l1).bind fun t391 => ((laws_eqCubeS.f kj20 t382 t391).bind fun t394 => (if t394 = true then (some true) else (some false)))) = some true := by first | (rw [if_pos rfl] at H; exact H) | rfl
       clear H
       have H := H1
       clear H1
       replace H := ob H
       obtain ⟨t391, A460, H⟩ := H
       replace H : ((laws_eqCubeS.f kj20 t382 t391).bind fun t394 => (if t394 = true then (some true) else (some false))) = some true := H
       have A46 := am A460
       clear A460
       replace H := ob H
       obtain ⟨t394, A470, H⟩ := H
       replace H : (if t394 = true then (some true) else (some false)) = some true := H
       have A47 := am A470
       clear A470
       by_cases c48 : t394 = true
       ·subst c48
        have H1 : (some true) = some true := by first | (rw [if_pos rfl] at H; exact H) | rfl
        clear H
        have H := H1
        clear H1
        clear H
        try go_wp2
        have n0_ := am (Kd.R_drew HO_13.out)
        have n1_ := am (Kd.S_drew HO_382000.out)
        have n2_ := am (Bk3 BK367.out)
        have n3_ := am (Bk3 BK381.out)
        have n4_ := am (Bb3 HB.out)
        clear HO_13
        clear HO_382000
        clear BK367
        clear BK381
        clear HB
        have HO_13 := n0_
        have HO_382000 := n1_
        have BK367 := n2_
        have BK381 := n3_
        have HB := n4_
        clear n0_ n1_ n2_ n3_ n4_
        refine start_ (n := 5) (S := fun w' => w'.cell? ⟨gb381, 0, none⟩ = some (.slice Ao34 t378.length co34) ∧ w'.cell? ⟨gb367, 0, none⟩ = some (.slice A0_0 l0_0.length c0_0)) (ds := []) #[false, false, false, false, false] (by kernel_rfl) rfl rfl ⟨(kc BK381.out 0).trans rfl, (kc BK367.out 0).trans rfl⟩ (fun hHeld => ?_)
        generalize wc.drew = w49 at HO_13 HO_382000 BK367 BK381 HB hHeld ⊢
        refine take_ (i := 0) (N := some 56) (v := ?_) (a' := ?_) #[true, false, false, false, false] rfl rfl (by kernel_rfl) (fun _ _ _ h => h) (Or.inl ⟨by rfl, ?_⟩) hHeld ?_ ?_
        rotate_left
        ·rintro w' ⟨s0, s1⟩
         go_simp
         with_reducible rfl
        rotate_left
        ·simp only [Act.put, sa, i64_w, i32_w]
         rfl
        refine take_ (i := 1) (N := some 57) (v := ?_) (a' := ?_) #[true, true, false, false, false] rfl rfl (by kernel_rfl) (fun _ _ _ h => h) (Or.inl ⟨by rfl, ?_⟩) hHeld ?_ ?_
        rotate_left
        ·rintro w' ⟨s0, s1⟩
         go_simp
         with_reducible rfl
        rotate_left
        ·simp only [Act.put, sa, i64_w, i32_w]
         rfl
        refine one_ (i := 2) (N := some 58) #[true, true, true, false, false] rfl rfl (by kernel_rfl) (by decide) (fun K hK => ?_)
        refine goes_ Try.func15 (by kernel_rfl) rfl #[.agg #[.slice A0_0 l0_0.length c0_0]] (by rfl) rfl rfl (by (try simp only [List.map_toArray, List.map_cons, List.map_nil]); first | done | rfl | (simp only [List.length_drop, List.length_take]; rfl)) ?_
        with_reducible refine (laws_toAssembly.calls kj20 _ _ l0_0 t387 _ ?side1 ?side2 A43.out).mono ?_
        (case side1 => repeat (first | exact (Kd.C_below HR0_0.out HB.out) | (with_reducible refine Kd.C_alloc ?_ _) | (with_reducible refine Kd.C_drewN ?_ _) | (with_reducible refine Kd.C_drew ?_)))
        (case side2 => exact HC0_0.out)
        rintro e w50 ⟨v388, rfl, ho0, hb⟩
        refine ⟨_, rfl, ?_⟩
        have n0_ := am (Kd.R_below (by (with_reducible repeat (first | apply Kd.R_alloc | apply Kd.R_drewN | apply Kd.R_drew)); exact HO_13.out) hb)
        have n1_ := am (Kd.S_elder' (by (with_reducible repeat (first | apply Kd.S_alloc | apply Kd.S_drewN | apply Kd.S_drew)); exact HO_382000.out) (Kd.S_base ho0) hb)
        have n2_ := am (Kd.S_lower (Kd.S_new' (Kd.S_new' ho0 (Kd.R_lt (by (with_reducible repeat (first | apply Kd.R_alloc | apply Kd.R_drewN | apply Kd.R_drew)); exact HO_13.out))) (Kd.S_lt (by (with_reducible repeat (first | apply Kd.S_alloc | apply Kd.S_drewN | apply Kd.S_drew)); exact HO_382000.out))) (Bb5 (by repeat (first | (with_reducible first | exact HB.out | apply Bb1 | apply Bb2 | apply Bb3 | refine Bb4 ?_ GE367.out | refine Bb4 ?_ GE381.out) | exact HB.out))))
        have n3_ := am (Bk4 (g := gb367) (o := .cells #[.slice A0_0 l0_0.length c0_0] 24 (0, 0)) (by (with_reducible repeat (first | refine Bk2 ?_ _ | refine Bk3 ?_ | refine Bk1 ?_ _)); exact BK367.out) hb)
        have n4_ := am (Bk4 (g := gb381) (o := .cells #[.slice Ao34 t378.length co34] 29 (0, 0)) (by (with_reducible repeat (first | refine Bk2 ?_ _ | refine Bk3 ?_ | refine Bk1 ?_ _)); exact BK381.out) hb)
        have n5_ := am (Bb6 (by repeat (first | (with_reducible first | exact HB.out | apply Bb1 | apply Bb2 | apply Bb3 | refine Bb4 ?_ GE367.out | refine Bb4 ?_ GE381.out) | exact HB.out)) hb)
        clear HO_13
        clear HO_382000
        clear BK367
        clear BK381
        clear HB
        have HO_13 := n0_
        have HO_382000 := n1_
        have HO389 := n2_
        have BK367 := n3_
        have BK381 := n4_
        have HB := n5_
        clear n0_ n1_ n2_ n3_ n4_ n5_
        (try clear hb)
        (try clear hb2)
        (try clear hk)
        (try clear hi)
        (try clear ho0)
        obtain ⟨Ao51, co51, eo51⟩ := Kd.S_slice HO389.out
        (first | subst eo51 | (injection eo51 with f1_ f2_ f3_; have f4_ := f1_.symm; have f5_ := f3_.symm; clear f1_ f2_ f3_; subst f4_; subst f5_))
        refine hK.out _ _ ⟨(kc BK381.out 0).trans rfl, (kc BK367.out 0).trans rfl⟩ (fun hHeld => ?_)
        clear hK K
        refine norm_ (a' := ?_) ?_ ?_
        rotate_left
        ·show Act.put _ (some 58) _ = _
         simp only [Act.put, sa, i64_w, i32_w]
         rfl
        refine one_ (i := 3) (N := some 59) #[true, true, true, true, false] rfl rfl (by kernel_rfl) (by decide) (fun K hK => ?_)
        refine goes_ Try.func17 (by kernel_rfl) rfl #[.agg #[.slice Ao34 t378.length co34], .agg #[.slice Ao51 t387.length co51]] (by rfl) rfl rfl (by (try simp only [List.map_toArray, List.map_cons, List.map_nil]); first | done | rfl | (simp only [List.length_drop, List.length_take]; rfl)) ?_
        with_reducible refine (laws_eqAssembly.calls kj20 _ _ t378 _ _ t387 true _ ?side1 ?side2 ?side3 ?side4 A44.out).mono ?_
        (case side1 => repeat (first | exact (Kd.S_reads' HO_382000.out).2.2 | (with_reducible refine Kd.C_alloc ?_ _) | (with_reducible refine Kd.C_drewN ?_ _) | (with_reducible refine Kd.C_drew ?_)))
        (case side2 => exact (Kd.S_reads' HO_382000.out).2.1)
        (case side3 => repeat (first | exact (Kd.S_reads' HO389.out).2.2 | (with_reducible refine Kd.C_alloc ?_ _) | (with_reducible refine Kd.C_drewN ?_ _) | (with_reducible refine Kd.C_drew ?_)))
        (case side4 => exact (Kd.S_reads' HO389.out).2.1)
        rintro e w52 ⟨rfl, hb⟩
        refine ⟨_, rfl, ?_⟩
        have n0_ := am (Kd.R_below (by (with_reducible repeat (first | apply Kd.R_alloc | apply Kd.R_drewN | apply Kd.R_drew)); exact HO_13.out) hb)
        have n1_ := am (Kd.S_below (by (with_reducible repeat (first | apply Kd.S_alloc | apply Kd.S_drewN | apply Kd.S_drew)); exact HO_382000.out) hb)
        have n2_ := am (Kd.S_below (by (with_reducible repeat (first | apply Kd.S_alloc | apply Kd.S_drewN | apply Kd.S_drew)); exact HO389.out) hb)
        have n3_ := am (Bk4 (g := gb367) (o := .cells #[.slice A0_0 l0_0.length c0_0] 24 (0, 0)) (by (with_reducible repeat (first | refine Bk2 ?_ _ | refine Bk3 ?_ | refine Bk1 ?_ _)); exact BK367.out) hb)
        have n4_ := am (Bk4 (g := gb381) (o := .cells #[.slice Ao34 t378.length co34] 29 (0, 0)) (by (with_reducible repeat (first | refine Bk2 ?_ _ | refine Bk3 ?_ | refine Bk1 ?_ _)); exact BK381.out) hb)
        have n5_ := am (Bb6 (by repeat (first | (with_reducible first | exact HB.out | apply Bb1 | apply Bb2 | apply Bb3 | refine Bb4 ?_ GE367.out | refine Bb4 ?_ GE381.out) | exact HB.out)) hb)
        clear HO_13
        clear HO_382000
        clear HO389
        clear BK367
        clear BK381
        clear HB
        have HO_13 := n0_
        have HO_382000 := n1_
        have HO389 := n2_
        have BK367 := n3_
        have BK381 := n4_
        have HB := n5_
        clear n0_ n1_ n2_ n3_ n4_ n5_
        (try clear hb)
        (try clear hb2)
        (try clear hk)
        (try clear hi)
        refine hK.out _ _ ⟨(kc BK381.out 0).trans rfl, (kc BK367.out 0).trans rfl⟩ (fun hHeld => ?_)
        clear hK K
        refine norm_ (a' := ?_) ?_ ?_
        rotate_left
        ·show Act.put _ (some 59) _ = _
         simp only [Act.put, sa, i64_w, i32_w]
         rfl
        refine pure_ (i := 4) (N := some 60) (v := ?_) (a' := ?_) #[true, true, true, true, true] rfl rfl (by kernel_rfl) (fun _ _ _ h => h) (Or.inl ⟨by rfl, ?_⟩) ?_ ?_
        rotate_left
        ·intro w'
         go_simp
         with_reducible rfl
        rotate_left
        ·simp only [Act.put, sa, i64_w, i32_w]
         rfl
        refine done_ (by kernel_rfl) ?_
        try go_wp2_with (first | ((with_reducible refine gate_callee (f := 20) rfl ?_); refine goesL_ (some 63) rfl rfl Try.func20 (by kernel_rfl) rfl #[.slice A1 l1.length c1] rfl (by (try simp only [List.map_toArray, List.map_cons, List.map_nil]); first | done | rfl | (simp only [List.length_drop, List.length_take]; rfl)) ?_; (with_reducible refine (laws_toCubeS.calls kj20 _ _ l1 t391 _ ?side1 ?side2 A46.out).mono ?_); (case side1 => repeat (first | exact (Kd.C_below HR1.out HB.out) | (with_reducible refine Kd.C_alloc ?_ _) | (with_reducible refine Kd.C_drewN ?_ _) | (with_reducible refine Kd.C_drew ?_))); (case side2 => exact HC1.out); rintro e w53 ⟨v392, rfl, ho0, hb⟩; refine ⟨_, rfl, ?_⟩; have n0_ := am (Kd.R_elder' (by (with_reducible repeat (first | apply Kd.R_alloc | apply Kd.R_drewN | apply Kd.R_drew)); exact HO_13.out) (Kd.R_base ho0) hb); have n1_ := am (Kd.S_elder' (by (with_reducible repeat (first | apply Kd.S_alloc | apply Kd.S_drewN | apply Kd.S_drew)); exact HO_382000.out) (Kd.R_base ho0) hb); have n2_ := am (Kd.S_elder' (by (with_reducible repeat (first | apply Kd.S_alloc | apply Kd.S_drewN | apply Kd.S_drew)); exact HO389.out) (Kd.R_base ho0) hb); have n3_ := am (Kd.R_lower (Kd.R_new' ho0 (Kd.R_lt (by (with_reducible repeat (first | apply Kd.R_alloc | apply Kd.R_drewN | apply Kd.R_drew)); exact HO_13.out))) (Bb5 (by repeat (first | (with_reducible first | exact HB.out | apply Bb1 | apply Bb2 | apply Bb3 | refine Bb4 ?_ GE367.out | refine Bb4 ?_ GE381.out) | exact HB.out)))); have n4_ := am (Bk4 (g := gb367) (o := .cells #[.slice A0_0 l0_0.length c0_0] 24 (0, 0)) (by (with_reducible repeat (first | refine Bk2 ?_ _ | refine Bk3 ?_ | refine Bk1 ?_ _)); exact BK367.out) hb); have n5_ := am (Bk4 (g := gb381) (o := .cells #[.slice Ao34 t378.length co34] 29 (0, 0)) (by (with_reducible repeat (first | refine Bk2 ?_ _ | refine Bk3 ?_ | refine Bk1 ?_ _)); exact BK381.out) hb); have n6_ := am (Bb6 (by repeat (first | (with_reducible first | exact HB.out | apply Bb1 | apply Bb2 | apply Bb3 | refine Bb4 ?_ GE367.out | refine Bb4 ?_ GE381.out) | exact HB.out)) hb); clear HO_13; clear HO_382000; clear HO389; clear BK367; clear BK381; clear HB; have HO_13 := n0_; have HO_382000 := n1_; have HO389 := n2_; have HO393 := n3_; have BK367 := n4_; have BK381 := n5_; have HB := n6_; clear n0_ n1_ n2_ n3_ n4_ n5_ n6_; (try clear hb); (try clear hb2); (try clear hk); (try clear hi); (try clear ho0); obtain ⟨Ao54, co54, eo54⟩ := Kd.R_slice HO393.out; subst eo54) | ((with_reducible refine gate_callee (f := 22) rfl ?_); refine goesL_ (some 64) rfl rfl Try.func22 (by kernel_rfl) rfl #[.slice Ao39 t382.length co39, .slice Ao54 t391.length co54] rfl (by (try simp only [List.map_toArray, List.map_cons, List.map_nil]); first | done | rfl | (simp only [List.length_drop, List.length_take]; rfl)) ?_; (with_reducible refine (laws_eqCubeS.calls kj20 _ _ t382 _ _ t391 true _ ?side1 ?side2 ?side3 ?side4 A47.out).mono ?_); (case side1 => repeat (first | exact (Kd.R_reads' HO_13.out).2.2 | (with_reducible refine Kd.C_alloc ?_ _) | (with_reducible refine Kd.C_drewN ?_ _) | (with_reducible refine Kd.C_drew ?_))); (case side2 => exact (Kd.R_reads' HO_13.out).2.1); (case side3 => repeat (first | exact (Kd.R_reads' HO393.out).2.2 | (with_reducible refine Kd.C_alloc ?_ _) | (with_reducible refine Kd.C_drewN ?_ _) | (with_reducible refine Kd.C_drew ?_))); (case side4 => exact (Kd.R_reads' HO393.out).2.1); rintro e w55 ⟨rfl, hb⟩; refine ⟨_, rfl, ?_⟩; have n0_ := am (Kd.R_below (by (with_reducible repeat (first | apply Kd.R_alloc | apply Kd.R_drewN | apply Kd.R_drew)); exact HO_13.out) hb); have n1_ := am (Kd.S_below (by (with_reducible repeat (first | apply Kd.S_alloc | apply Kd.S_drewN | apply Kd.S_drew)); exact HO_382000.out) hb); have n2_ := am (Kd.S_below (by (with_reducible repeat (first | apply Kd.S_alloc | apply Kd.S_drewN | apply Kd.S_drew)); exact HO389.out) hb); have n3_ := am (Kd.R_below (by (with_reducible repeat (first | apply Kd.R_alloc | apply Kd.R_drewN | apply Kd.R_drew)); exact HO393.out) hb); have n4_ := am (Bk4 (g := gb367) (o := .cells #[.slice A0_0 l0_0.length c0_0] 24 (0, 0)) (by (with_reducible repeat (first | refine Bk2 ?_ _ | refine Bk3 ?_ | refine Bk1 ?_ _)); exact BK367.out) hb); have n5_ := am (Bk4 (g := gb381) (o := .cells #[.slice Ao34 t378.length co34] 29 (0, 0)) (by (with_reducible repeat (first | refine Bk2 ?_ _ | refine Bk3 ?_ | refine Bk1 ?_ _)); exact BK381.out) hb); have n6_ := am (Bb6 (by repeat (first | (with_reducible first | exact HB.out | apply Bb1 | apply Bb2 | apply Bb3 | refine Bb4 ?_ GE367.out | refine Bb4 ?_ GE381.out) | exact HB.out)) hb); clear HO_13; clear HO_382000; clear HO389; clear HO393; clear BK367; clear BK381; clear HB; have HO_13 := n0_; have HO_382000 := n1_; have HO389 := n2_; have HO393 := n3_; have BK367 := n4_; have BK381 := n5_; have HB := n6_; clear n0_ n1_ n2_ n3_ n4_ n5_ n6_; (try clear hb); (try clear hb2); (try clear hk); (try clear hi)))
        go_ret
        exact ⟨by first | rfl | (simp [errW_none, errW_some] <;> rfl) | (simp [*, errW_none, errW_some] <;> rfl), by repeat (first | (with_reducible first | exact HB.out | apply Bb1 | apply Bb2 | apply Bb3 | refine Bb4 ?_ GE367.out | refine Bb4 ?_ GE381.out) | exact HB.out)⟩
       ·replace c48 := ef c48
        subst c48
        have H1 : (some false) = some true := by first | (rw [if_neg (show ¬ (false = true) by decide)] at H; exact H) | rfl
        clear H
        have H := H1
        clear H1
        exact absurd H (by simp)
      ·replace c45 := ef c45
       subst c45
       have H1 : (some false) = some true := by first | (rw [if_neg (show ¬ (false = true) by decide)] at H; exact H) | rfl
       clear H
       have H := H1
       clear H1
       exact absurd H (by simp)

end Go.Proofs.Ytjgnlakgojookaa.Q
