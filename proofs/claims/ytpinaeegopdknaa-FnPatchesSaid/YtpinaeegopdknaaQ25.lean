/- Written by a program of this session (wip/tools/pp.py) out of the translation, with the kit's printer. -/
import Derived.Test.YtpinaeegopdknaaQ0
import Derived.Test.YtpinaeegopdknaaQ7
import Derived.Test.YtpinaeegopdknaaQGimplPatchOf
import Derived.Test.YtpinaeegopdknaaQ14
import Derived.Test.YtpinaeegopdknaaQ24
namespace Go.Proofs.Ytpinaeegopdknaa.Q
open Go.RowKit Go.Proofs.YtpinaeegopdknaaW.PrintWords Go.Proofs.YtpinaeegopdknaaW.PrintLast Go.Proofs.YtpinaeegopdknaaW.PrintMore
attribute [local go_sem] max2_int min2_int max_two min_two max_three min_three max_four min_four
set_option linter.unusedVariables false
set_option linter.unusedSimpArgs false

/-! ### laws_FnPatches: function 4 -/
def laws_FnPatches.j0 : Nat → Int → Int → ByteArray → Int → Bool → Option (Bool)
 | 0, _, _, _, _, _ => none
 | k + 1, x5, x6, x7, x8, x43 => if x43 = true then (some false) else (if x8 = 0 then (if (x7.size : Int) = (wrap64 ((wrap64 (x6 * (wrap64 (x5 + 1)))) - 1)) then (if 0 < (x7.size : Int) then (some ((bt x7 0) == 97)) else (none)) else (some false)) else (some true))
def laws_FnPatches.f (k : Nat) (l0 : List Int) : Option (Bool) := (laws_big.f l0).bind fun t471 => (if t471 = true then (some true) else ((spec_DrawPatchOf.f k l0).bind fun bt472 => ((impl_PatchOf.f k bt472.1 bt472.2.1 bt472.2.2.1 bt472.2.2.2.1 bt472.2.2.2.2.1 bt472.2.2.2.2.2).bind fun bt481 => ((spec_PatchOf.f k bt472.1 bt472.2.1 bt472.2.2.1 bt472.2.2.2.1 bt472.2.2.2.2.1 bt472.2.2.2.2.2).bind fun bt483 => (if bt481.2 = bt483.2 then (laws_FnPatches.j0 k bt472.2.2.2.2.1 bt472.2.2.2.2.2 bt481.1 bt481.2 (bt481.1.toList != bt483.1.toList)) else (laws_FnPatches.j0 k bt472.2.2.2.2.1 bt472.2.2.2.2.2 bt481.1 bt481.2 true))))))
theorem laws_FnPatches.mono_l : ∀ k, (∀ y0 y1 y2 y3 y4, LeO (laws_FnPatches.j0 k y0 y1 y2 y3 y4) (laws_FnPatches.j0 (k + 1) y0 y1 y2 y3 y4))
 | 0 => fun _ _ _ _ _ r h => by simp [laws_FnPatches.j0] at h
 | k + 1 => by
  have ih0 := laws_FnPatches.mono_l k
  ·intro y0 y1 y2 y3 y4
   unfold laws_FnPatches.j0
   repeat' first
   | (with_reducible exact ih0 _ _ _ _ _)
   | (with_reducible exact impl_PatchOf.mono _ _ _ _ _ _ _)
   | (with_reducible exact spec_DrawPatchOf.mono _ _)
   | (with_reducible exact spec_PatchOf.mono _ _ _ _ _ _ _)
   | (with_reducible exact LeO.refl _)
   | (with_reducible exact LeO.none _)
   | (with_reducible refine LeO.ite ?_ ?_)
   | (with_reducible refine LeO.bind ?_ (fun _ => ?_))
   | exact ih0 _ _ _ _ _
   | exact impl_PatchOf.mono _ _ _ _ _ _ _
   | exact spec_DrawPatchOf.mono _ _
   | exact spec_PatchOf.mono _ _ _ _ _ _ _
   | exact LeO.none _
   | refine LeO.ite ?_ ?_
   | refine LeO.bind ?_ (fun _ => ?_)
theorem laws_FnPatches.mono : ∀ a0 k, LeO (laws_FnPatches.f k a0) (laws_FnPatches.f (k + 1) a0) := by
 intro a0 k
 have ih0 := laws_FnPatches.mono_l k
 unfold laws_FnPatches.f
 repeat' first
   | (with_reducible exact ih0 _ _ _ _ _)
   | (with_reducible exact impl_PatchOf.mono _ _ _ _ _ _ _)
   | (with_reducible exact spec_DrawPatchOf.mono _ _)
   | (with_reducible exact spec_PatchOf.mono _ _ _ _ _ _ _)
   | (with_reducible exact LeO.refl _)
   | (with_reducible exact LeO.none _)
   | (with_reducible refine LeO.ite ?_ ?_)
   | (with_reducible refine LeO.bind ?_ (fun _ => ?_))
   | exact ih0 _ _ _ _ _
   | exact impl_PatchOf.mono _ _ _ _ _ _ _
   | exact spec_DrawPatchOf.mono _ _
   | exact spec_PatchOf.mono _ _ _ _ _ _ _
   | exact LeO.none _
   | refine LeO.ite ?_ ?_
   | refine LeO.bind ?_ (fun _ => ?_)
set_option maxHeartbeats 8000000 in
set_option maxRecDepth 100000 in
theorem laws_FnPatches.calls (k : Nat) (A0 : Option Addr) (c0 : Nat) (l0 : List Int) (w : World) (hr0 : Kd.C (Kd.int .u8) w A0 l0.length l0) (hc0 : l0.length ≤ c0) (h : laws_FnPatches.f k l0 = some true) :
  Calls Try.prog 4 #[.slice A0 l0.length c0] w fun e w' => e = .returned (.bool true) ∧ Below w.heap.size w w' := by
 have hu30 := Try.underlying30
 have HR0 := am hr0
 have HC0 := am hc0
 clear hr0 hc0
 have HB := am (Below.refl w.heap.size w)
 have H : ((laws_big.f l0).bind fun t471 => (if t471 = true then (some true) else ((spec_DrawPatchOf.f k l0).bind fun bt472 => ((impl_PatchOf.f k bt472.1 bt472.2.1 bt472.2.2.1 bt472.2.2.2.1 bt472.2.2.2.2.1 bt472.2.2.2.2.2).bind fun bt481 => ((spec_PatchOf.f k bt472.1 bt472.2.1 bt472.2.2.1 bt472.2.2.2.1 bt472.2.2.2.2.1 bt472.2.2.2.2.2).bind fun bt483 => (if bt481.2 = bt483.2 then (laws_FnPatches.j0 k bt472.2.2.2.2.1 bt472.2.2.2.2.2 bt481.1 bt481.2 (bt481.1.toList != bt483.1.toList)) else (laws_FnPatches.j0 k bt472.2.2.2.2.1 bt472.2.2.2.2.2 bt481.1 bt481.2 true))))))) = some true := h
 clear h
 replace H := ob H
 obtain ⟨t471, A20, H⟩ := H
 replace H : (if t471 = true then (some true) else ((spec_DrawPatchOf.f k l0).bind fun bt472 => ((impl_PatchOf.f k bt472.1 bt472.2.1 bt472.2.2.1 bt472.2.2.2.1 bt472.2.2.2.2.1 bt472.2.2.2.2.2).bind fun bt481 => ((spec_PatchOf.f k bt472.1 bt472.2.1 bt472.2.2.1 bt472.2.2.2.1 bt472.2.2.2.2.1 bt472.2.2.2.2.2).bind fun bt483 => (if bt481.2 = bt483.2 then (laws_FnPatches.j0 k bt472.2.2.2.2.1 bt472.2.2.2.2.2 bt481.1 bt481.2 (bt481.1.toList != bt483.1.toList)) else (laws_FnPatches.j0 k bt472.2.2.2.2.1 bt472.2.2.2.2.2 bt481.1 bt481.2 true)))))) = some true := H
 have A2 := am A20
 clear A20
 by_cases c3 : t471 = true
 ·subst c3
  have H1 : (some true) = some true := by first | (rw [if_pos rfl] at H; exact H) | rfl
  clear H
  have H := H1
  clear H1
  clear H
  go_enter Try.func4, Try.ntmps4
  go_wp2_with (first | ((with_reducible refine gate_callee (f := 11) rfl ?_); refine goesL_ (some 12) rfl rfl Try.func11 (by kernel_rfl) rfl #[.slice A0 l0.length c0] rfl (by (try simp only [List.map_toArray, List.map_cons, List.map_nil]); first | done | rfl | (simp only [List.length_drop, List.length_take]; rfl)) ?_; (with_reducible refine (laws_big.calls _ _ l0 true _ ?side1 ?side2 A2.out).mono ?_); (case side1 => repeat (first | exact HR0.out | (with_reducible refine Kd.C_alloc ?_ _) | (with_reducible refine Kd.C_drewN ?_ _) | (with_reducible refine Kd.C_drew ?_))); (case side2 => exact HC0.out); rintro e w' ⟨rfl, ⟨nd, rfl⟩⟩; refine ⟨_, rfl, ?_⟩))
  go_ret
  exact ⟨by first | rfl | (simp [errW_none, errW_some] <;> rfl) | (simp [*, errW_none, errW_some] <;> rfl), by repeat (first | (with_reducible first | exact HB.out | apply Bb1 | apply Bb2 | apply Bb3) | exact HB.out)⟩
 ·replace c3 := ef c3
  subst c3
  have H1 : ((spec_DrawPatchOf.f k l0).bind fun bt472 => ((impl_PatchOf.f k bt472.1 bt472.2.1 bt472.2.2.1 bt472.2.2.2.1 bt472.2.2.2.2.1 bt472.2.2.2.2.2).bind fun bt481 => ((spec_PatchOf.f k bt472.1 bt472.2.1 bt472.2.2.1 bt472.2.2.2.1 bt472.2.2.2.2.1 bt472.2.2.2.2.2).bind fun bt483 => (if bt481.2 = bt483.2 then (laws_FnPatches.j0 k bt472.2.2.2.2.1 bt472.2.2.2.2.2 bt481.1 bt481.2 (bt481.1.toList != bt483.1.toList)) else (laws_FnPatches.j0 k bt472.2.2.2.2.1 bt472.2.2.2.2.2 bt481.1 bt481.2 true))))) = some true := by first | (rw [if_neg (show ¬ (false = true) by decide)] at H; exact H) | rfl
  clear H
  have H := H1
  clear H1
  replace H := ob H
  obtain ⟨⟨t472, t475, t476, t477, t478, t479⟩, A40, H⟩ := H
  replace H : ((impl_PatchOf.f k t472 t475 t476 t477 t478 t479).bind fun bt481 => ((spec_PatchOf.f k t472 t475 t476 t477 t478 t479).bind fun bt483 => (if bt481.2 = bt483.2 then (laws_FnPatches.j0 k t478 t479 bt481.1 bt481.2 (bt481.1.toList != bt483.1.toList)) else (laws_FnPatches.j0 k t478 t479 bt481.1 bt481.2 true)))) = some true := H
  have A4 := am A40
  clear A40
  replace H := ob H
  obtain ⟨⟨t481, t482⟩, A50, H⟩ := H
  replace H : ((spec_PatchOf.f k t472 t475 t476 t477 t478 t479).bind fun bt483 => (if t482 = bt483.2 then (laws_FnPatches.j0 k t478 t479 t481 t482 (t481.toList != bt483.1.toList)) else (laws_FnPatches.j0 k t478 t479 t481 t482 true))) = some true := H
  have A5 := am A50
  clear A50
  replace H := ob H
  obtain ⟨⟨t483, t484⟩, A60, H⟩ := H
  replace H : (if t482 = t484 then (laws_FnPatches.j0 k t478 t479 t481 t482 (t481.toList != t483.toList)) else (laws_FnPatches.j0 k t478 t479 t481 t482 true)) = some true := H
  have A6 := am A60
  clear A60
  have HC7 := am H
  clear H
  go_enter Try.func4, Try.ntmps4
  go_upto_region 6 with (first | ((with_reducible refine gate_callee (f := 11) rfl ?_); refine goesL_ (some 12) rfl rfl Try.func11 (by kernel_rfl) rfl #[.slice A0 l0.length c0] rfl (by (try simp only [List.map_toArray, List.map_cons, List.map_nil]); first | done | rfl | (simp only [List.length_drop, List.length_take]; rfl)) ?_; (with_reducible refine (laws_big.calls _ _ l0 false _ ?side1 ?side2 A2.out).mono ?_); (case side1 => repeat (first | exact HR0.out | (with_reducible refine Kd.C_alloc ?_ _) | (with_reducible refine Kd.C_drewN ?_ _) | (with_reducible refine Kd.C_drew ?_))); (case side2 => exact HC0.out); rintro e w' ⟨rfl, ⟨nd, rfl⟩⟩; refine ⟨_, rfl, ?_⟩) | ((with_reducible refine gate_callee (f := 12) rfl ?_); refine goesL_ (some 15) rfl rfl Try.func12 (by kernel_rfl) rfl #[.slice A0 l0.length c0] rfl (by (try simp only [List.map_toArray, List.map_cons, List.map_nil]); first | done | rfl | (simp only [List.length_drop, List.length_take]; rfl)) ?_; (with_reducible refine (spec_DrawPatchOf.calls k _ _ l0 t472 t475 t476 t477 t478 t479 _ ?side1 ?side2 A4.out).mono ?_); (case side1 => repeat (first | exact HR0.out | (with_reducible refine Kd.C_alloc ?_ _) | (with_reducible refine Kd.C_drewN ?_ _) | (with_reducible refine Kd.C_drew ?_))); (case side2 => exact HC0.out); rintro e w8 ⟨v473, rfl, ho0, hb⟩; refine ⟨_, rfl, ?_⟩; have n0_ := am (Kd.R_lower ho0 (Bb5 (by repeat (first | (with_reducible first | exact HB.out | apply Bb1 | apply Bb2 | apply Bb3) | exact HB.out)))); have n1_ := am (Bb6 (by repeat (first | (with_reducible first | exact HB.out | apply Bb1 | apply Bb2 | apply Bb3) | exact HB.out)) hb); clear HB; have HO474 := n0_; have HB := n1_; clear n0_ n1_; (try clear hb); (try clear hb2); (try clear hk); (try clear hi); (try clear ho0)) | ((with_reducible refine gate_dst (N := 4) rfl ?_); refine box_event ?hg (N := 4) ?hd (cs := #[.int .i64 0, .int .i64 0, .int .i64 0]) (t := 30) ?hr ?_; (case hd => rfl); (case hg => rfl); (case hr => first | (go_simp; done) | (go_simp; rfl)); intro gb480 hg w9 hbox hb; have n0_ := am (Kd.R_below (by (with_reducible repeat (first | apply Kd.R_alloc | apply Kd.R_drewN | apply Kd.R_drew)); exact HO474.out) hb); have n1_ := am (Bb6 (by repeat (first | (with_reducible first | exact HB.out | apply Bb1 | apply Bb2 | apply Bb3) | exact HB.out)) hb); have n2_ := am (hbox); have n3_ := am ((by rw [hg]; exact (Bb5 (by repeat (first | (with_reducible first | exact HB.out | apply Bb1 | apply Bb2 | apply Bb3) | exact HB.out))) : w.heap.size ≤ gb480)); have n4_ := n3_; clear HO474; clear HB; have HO474 := n0_; have HB := n1_; have BK480 := n2_; have GW480 := n3_; have GE480 := n4_; clear n0_ n1_ n2_ n3_ n4_; clear hb hbox hg; have hcz10_0 : w9.cell? ⟨gb480, 0, none⟩ = some (.int .i64 0) := (kc BK480.out 0).trans rfl; have hcz10_1 : w9.cell? ⟨gb480, 1, none⟩ = some (.int .i64 0) := (kc BK480.out 1).trans rfl; have hcz10_2 : w9.cell? ⟨gb480, 2, none⟩ = some (.int .i64 0) := (kc BK480.out 2).trans rfl; have hfz10_0 := kf BK480.out 0; have hfz10_1 := kf BK480.out 1; have hfz10_2 := kf BK480.out 2; obtain ⟨Ao11, co11, eo11⟩ := Kd.R_slice HO474.out; subst eo11) | ((with_reducible refine gate_callee (f := 9) rfl ?_); refine goesL_ (some 25) rfl rfl Try.func9 (by kernel_rfl) rfl #[.slice Ao11 t472.length co11, .agg #[.int .i64 t475, .int .i64 t476, .int .i64 t477], .int .i64 t478, .int .i64 t479] rfl (by (try simp only [List.map_toArray, List.map_cons, List.map_nil]); first | done | rfl | (simp only [List.length_drop, List.length_take]; rfl)) ?_; (with_reducible refine (impl_PatchOf.calls k _ _ t472 t475 t476 t477 t478 t479 t481 t482 _ ?side1 ?side2 A5.out).mono ?_); (case side1 => refine (Kd.R_reads' (e := 43) (base := w.heap.size) (ok := fun k_ => True) (n := t472.length) (c := co11) ?_).2.2; exact (by (with_reducible repeat (first | apply Kd.R_alloc | apply Kd.R_drewN | apply Kd.R_drew)); exact (Kd.R_mono (Kd.R_far (p := ⟨gb480, 2, none⟩) (Kd.R_far (p := ⟨gb480, 1, none⟩) (Kd.R_far (p := ⟨gb480, 0, none⟩) (Kd.R_types HO474.out BK480.out (by decide)) (fun _ hk => hk.2) (.int .i64 t475)) (fun _ hk => hk.2) (.int .i64 t476)) (fun _ hk => hk.2) (.int .i64 t477)) (fun _ h_ => h_.1)))); (case side2 => exact (Kd.R_reads' HO474.out).2.1); rintro e w12 ⟨rfl, hb⟩; refine ⟨_, rfl, ?_⟩; have n0_ := am (Kd.R_below (by (with_reducible repeat (first | apply Kd.R_alloc | apply Kd.R_drewN | apply Kd.R_drew)); exact (Kd.R_mono (Kd.R_far (p := ⟨gb480, 2, none⟩) (Kd.R_far (p := ⟨gb480, 1, none⟩) (Kd.R_far (p := ⟨gb480, 0, none⟩) (Kd.R_types HO474.out BK480.out (by decide)) (fun _ hk => hk.2) (.int .i64 t475)) (fun _ hk => hk.2) (.int .i64 t476)) (fun _ hk => hk.2) (.int .i64 t477)) (fun _ h_ => h_.1))) hb); have n1_ := am (Bk4 (g := gb480) (o := .cells #[.int .i64 t475, .int .i64 t476, .int .i64 t477] 30 (0, 0)) (by (with_reducible repeat (first | refine Bk2 ?_ _ | refine Bk3 ?_ | refine Bk1 ?_ _)); refine blk_put (cs := #[.int .i64 t475, .int .i64 t476, .int .i64 0]) ?_ 2 _ rfl; (with_reducible repeat (first | refine Bk2 ?_ _ | refine Bk3 ?_ | refine Bk1 ?_ _)); refine blk_put (cs := #[.int .i64 t475, .int .i64 0, .int .i64 0]) ?_ 1 _ rfl; (with_reducible repeat (first | refine Bk2 ?_ _ | refine Bk3 ?_ | refine Bk1 ?_ _)); refine blk_put (cs := #[.int .i64 0, .int .i64 0, .int .i64 0]) ?_ 0 _ rfl; (with_reducible repeat (first | refine Bk2 ?_ _ | refine Bk3 ?_ | refine Bk1 ?_ _)); exact BK480.out) hb); have n2_ := am (Bb6 (by repeat (first | (with_reducible first | exact HB.out | apply Bb1 | apply Bb2 | apply Bb3 | refine Bb4 ?_ GE480.out) | exact HB.out)) hb); clear HO474; clear BK480; clear HB; have HO474 := n0_; have BK480 := n1_; have HB := n2_; clear n0_ n1_ n2_; (try clear hb); (try clear hb2); (try clear hk); (try clear hi); have hcz13_0 : w12.cell? ⟨gb480, 0, none⟩ = some (.int .i64 t475) := (kc BK480.out 0).trans rfl; have hcz13_1 : w12.cell? ⟨gb480, 1, none⟩ = some (.int .i64 t476) := (kc BK480.out 1).trans rfl; have hcz13_2 : w12.cell? ⟨gb480, 2, none⟩ = some (.int .i64 t477) := (kc BK480.out 2).trans rfl; have hfz13_0 := kf BK480.out 0; have hfz13_1 := kf BK480.out 1; have hfz13_2 := kf BK480.out 2) | ((with_reducible refine gate_callee (f := 6) rfl ?_); refine goesL_ (some 33) rfl rfl Try.func6 (by kernel_rfl) rfl #[.slice Ao11 t472.length co11, .agg #[.int .i64 t475, .int .i64 t476, .int .i64 t477], .int .i64 t478, .int .i64 t479] rfl (by (try simp only [List.map_toArray, List.map_cons, List.map_nil]); first | done | rfl | (simp only [List.length_drop, List.length_take]; rfl)) ?_; (with_reducible refine (spec_PatchOf.calls k _ _ t472 t475 t476 t477 t478 t479 t483 t484 _ ?side1 ?side2 A6.out).mono ?_); (case side1 => repeat (first | exact (Kd.R_reads' HO474.out).2.2 | (with_reducible refine Kd.C_alloc ?_ _) | (with_reducible refine Kd.C_drewN ?_ _) | (with_reducible refine Kd.C_drew ?_))); (case side2 => exact (Kd.R_reads' HO474.out).2.1); rintro e w14 ⟨rfl, hb⟩; refine ⟨_, rfl, ?_⟩; have n0_ := am (Kd.R_below (by (with_reducible repeat (first | apply Kd.R_alloc | apply Kd.R_drewN | apply Kd.R_drew)); exact HO474.out) hb); have n1_ := am (Bk4 (g := gb480) (o := .cells #[.int .i64 t475, .int .i64 t476, .int .i64 t477] 30 (0, 0)) (by (with_reducible repeat (first | refine Bk2 ?_ _ | refine Bk3 ?_ | refine Bk1 ?_ _)); exact BK480.out) hb); have n2_ := am (Bb6 (by repeat (first | (with_reducible first | exact HB.out | apply Bb1 | apply Bb2 | apply Bb3 | refine Bb4 ?_ GE480.out) | exact HB.out)) hb); clear HO474; clear BK480; clear HB; have HO474 := n0_; have BK480 := n1_; have HB := n2_; clear n0_ n1_ n2_; (try clear hb); (try clear hb2); (try clear hk); (try clear hi)))
  (try simp only [Act.put, sa])
  go_cut [43] (fun v43 wc => ∃ (kq : Nat) (x43_6 : Bool), v43 = .bool x43_6 ∧ Aside0 (laws_FnPatches.j0 kq t478 t479 t481 t482 x43_6 = some true) ∧ Aside0 (kq ≤ k) ∧ Aside0 (wc.heap[gb480]? = some (.cells #[.int .i64 t475, .int .i64 t476, .int .i64 t477] 30 (0, 0))) ∧ Aside0 (Below w.heap.size w wc))
  case first =>
   have H := HC7.out
   clear HC7
   by_cases c15 : t482 = t484
   ·rw [if_pos c15] at H
    have c15b0 : (t482 == t484) = true := beq_iff_eq.mpr c15
    have c15b1 : (t482 != t484) = false := bne_eq_false_iff_eq.mpr c15
    clear c15
    (first | rw [c15b0] | (simp only [i64_w, i32_w]; rw [c15b0]) | skip)
    have H' := am H
    clear H
    go_wp2
    go_meet
    case rel => exact ⟨_, ((t481.toList != t483.toList)), (by first | rfl | (simp; done) | (simp [*]; done)), H', ⟨by first | omega | exact Nat.le_refl _⟩, ⟨by (with_reducible repeat (first | refine Bk2 ?_ _ | refine Bk3 ?_ | refine Bk1 ?_ _)); exact BK480.out⟩, ⟨by repeat (first | (with_reducible first | exact HB.out | apply Bb1 | apply Bb2 | apply Bb3 | refine Bb4 ?_ GE480.out) | exact HB.out)⟩⟩
   ·rw [if_neg c15] at H
    have c15b0 : (t482 == t484) = false := beq_eq_false_iff_ne.mpr c15
    have c15b1 : (t482 != t484) = true := bne_iff_ne.mpr c15
    (first | rw [c15b0] | (simp only [i64_w, i32_w]; rw [c15b0]) | skip)
    have H' := am H
    clear H
    go_wp2
    go_meet
    case rel => exact ⟨_, (true), (by first | rfl | (simp; done) | (simp [*]; done)), H', ⟨by first | omega | exact Nat.le_refl _⟩, ⟨by (with_reducible repeat (first | refine Bk2 ?_ _ | refine Bk3 ?_ | refine Bk1 ?_ _)); exact BK480.out⟩, ⟨by repeat (first | (with_reducible first | exact HB.out | apply Bb1 | apply Bb2 | apply Bb3 | refine Bb4 ?_ GE480.out) | exact HB.out)⟩⟩
  case rest =>
   clear HC7
   try clear c1
   try clear p2
   try clear c3
   try clear c4
   try clear c6
   try clear c9
   try clear c11
   try clear c12
   try clear c15
   try clear c15b0
   try clear c15b1
   try clear hcz10_0
   try clear hcz10_1
   try clear hcz10_2
   try clear hcz13_0
   try clear hcz13_1
   try clear hcz13_2
   try clear hfz10_0
   try clear hfz10_1
   try clear hfz10_2
   try clear hfz13_0
   try clear hfz13_1
   try clear hfz13_2
   obtain ⟨kq, x43_6, rfl, HA, HJ6, BK480, HB⟩ := hcut
   cases kq with
   | zero => exact absurd HA.out (by simp [laws_FnPatches.j0])
   | succ kj6 =>
    have H := HA.out
    clear HA
    simp only [laws_FnPatches.j0] at H
    by_cases c16 : x43_6 = true
    ·subst c16
     have H1 : (some false) = some true := by first | (rw [if_pos rfl] at H; exact H) | rfl
     clear H
     have H := H1
     clear H1
     exact absurd H (by simp)
    ·replace c16 := ef c16
     subst c16
     have H1 : (if t482 = 0 then (if (t481.size : Int) = (wrap64 ((wrap64 (t479 * (wrap64 (t478 + 1)))) - 1)) then (if 0 < (t481.size : Int) then (some ((bt t481 0) == 97)) else (none)) else (some false)) else (some true)) = some true := by first | (rw [if_neg (show ¬ (false = true) by decide)] at H; exact H) | rfl
     clear H
     have H := H1
     clear H1
     by_cases c17 : t482 = 0
     ·rw [if_pos c17] at H
      have c17b0 : (t482 == 0) = true := beq_iff_eq.mpr c17
      have c17b1 : (t482 != 0) = false := bne_eq_false_iff_eq.mpr c17
      clear c17
      by_cases c18 : (t481.size : Int) = (wrap64 ((wrap64 (t479 * (wrap64 (t478 + 1)))) - 1))
      ·rw [if_pos c18] at H
       have c18b0 : ((t481.size : Int) == (wrap64 ((wrap64 (t479 * (wrap64 (t478 + 1)))) - 1))) = true := beq_iff_eq.mpr c18
       have c18b1 : ((t481.size : Int) != (wrap64 ((wrap64 (t479 * (wrap64 (t478 + 1)))) - 1))) = false := bne_eq_false_iff_eq.mpr c18
       clear c18
       by_cases c19 : 0 < (t481.size : Int)
       ·rw [if_pos c19] at H
        have c19b0 : decide (0 < (t481.size : Int)) = true := decide_eq_true c19
        have c19b1 : decide (0 < t481.size) = true := decide_eq_true (by omega)
        clear c19
        first | obtain rfl := oi H | (have HR := oi H; clear H)
        have p20 : 0 ≤ (0 : Int) := (by omega)
        have q20 : 0 < t481.size := (by have : (0 : Int) < (t481.size : Int) := of_decide_eq_true (by first | (with_reducible assumption) | assumption); omega)
        have hx20 : ∀ h : 0 < t481.size, ((t481[0]'h).toNat : Int) = bt t481 0 := bt_at t481 0
        clear p20
        have qi20 : (0 < (t481.size : Int)) = True := eq_true (of_decide_eq_true (by first | (with_reducible assumption) | assumption))
        replace q20 := eq_true q20
        go_wp2
        go_ret
        exact ⟨by first | rfl | (simp [errW_none, errW_some] <;> rfl) | (simp [*, errW_none, errW_some] <;> rfl), by repeat (first | (with_reducible first | exact HB.out | apply Bb1 | apply Bb2 | apply Bb3 | refine Bb4 ?_ GE480.out) | exact HB.out)⟩
       ·rw [if_neg c19] at H
        exact absurd H (by simp)
      ·rw [if_neg c18] at H
       have c18b0 : ((t481.size : Int) == (wrap64 ((wrap64 (t479 * (wrap64 (t478 + 1)))) - 1))) = false := beq_eq_false_iff_ne.mpr c18
       have c18b1 : ((t481.size : Int) != (wrap64 ((wrap64 (t479 * (wrap64 (t478 + 1)))) - 1))) = true := bne_iff_ne.mpr c18
       exact absurd H (by simp)
     ·rw [if_neg c17] at H
      have c17b0 : (t482 == 0) = false := beq_eq_false_iff_ne.mpr c17
      have c17b1 : (t482 != 0) = true := bne_iff_ne.mpr c17
      clear H
      go_wp2
      go_ret
      exact ⟨by first | rfl | (simp [errW_none, errW_some] <;> rfl) | (simp [*, errW_none, errW_some] <;> rfl), by repeat (first | (with_reducible first | exact HB.out | apply Bb1 | apply Bb2 | apply Bb3 | refine Bb4 ?_ GE480.out) | exact HB.out)⟩

end Go.Proofs.Ytpinaeegopdknaa.Q
