/- Written by a program of this session (wip/tools/pp.py) out of the translation, with the kit's printer. -/
import Derived.Test.YtncianokahfkpaaDoorQ0
import Derived.Test.YtncianokahfkpaaDoorQ1
import Derived.Test.YtncianokahfkpaaDoorQ7
import Derived.Test.YtncianokahfkpaaDoorQGimplclausesText
import Derived.Test.YtncianokahfkpaaDoorQ10
import Derived.Test.YtncianokahfkpaaDoorQGspecFormulaText
import Derived.Test.YtncianokahfkpaaDoorQGimplFormulaText
import Derived.Deep.RegionHeld3
namespace Go.Proofs.YtncianokahfkpaaDoor.Q
open Go.RowKit Go.Proofs.YtncianokahfkpaaDoorW.PrintWords Go.Proofs.YtncianokahfkpaaDoorW.PrintLast Go.Proofs.YtncianokahfkpaaDoorW.PrintMore
attribute [local go_sem] max2_int min2_int max_two min_two max_three min_three max_four min_four
set_option linter.unusedVariables false
set_option linter.unusedSimpArgs false

/-! ### laws_FnExactFormulaText: walked by hand -/
def laws_FnExactFormulaText.f (k : Nat) (a0_0 : Int) (l0_0 : List (List Int)) : Option Bool :=
  (laws_szFormula.f k a0_0 l0_0 1048576).bind fun s1 => if s1 < 0 then some true else
  (laws_toFormula.f k a0_0 l0_0).bind fun x =>
  (spec_FormulaText.f k x.1 x.2).bind fun ws => (impl_FormulaText.f k x.1 x.2).bind fun g =>
  (laws_eqFormula.f k x.1 x.2 x.1 x.2).bind fun e2 =>
  if g = ws ∧ e2 = true then some true else none
set_option maxRecDepth 100000 in
set_option maxHeartbeats 4000000 in
theorem laws_FnExactFormulaText.calls (k : Nat) (a0_0 : Int) (A0_0 : Option Addr) (c0_0 : Nat) (l0_0 : List (List Int)) (w : World) (hr0_0 : Kd.C (Kd.slice 2 (Kd.int .i64)) w A0_0 l0_0.length l0_0) (hc0_0 : l0_0.length ≤ c0_0) (htab : Lib.TabIs Tryd.prog w "internal/strconv.uint64pow10" .u64 Lib.pow10Tab) (h : laws_FnExactFormulaText.f k a0_0 l0_0 = some true) :
    Calls Tryd.prog 4 #[.agg #[.int .i64 a0_0, .slice A0_0 l0_0.length c0_0]] w fun e w' => e = .returned (.bool true) ∧ Below w.heap.size w w' := by
  have hu24 := Tryd.underlying24
  have hu29 := Tryd.underlying29
  have HR := Aside0.mk hr0_0
  have HT := Aside0.mk htab
  have HB1 := Aside0.mk (below_alloc (Below.refl w.heap.size w) (.cells #[.int .i64 a0_0, .slice A0_0 l0_0.length c0_0] 24))
  have HBOX := Aside0.mk (heap_alloc_new w (.cells #[.int .i64 a0_0, .slice A0_0 l0_0.length c0_0] 24 (0, 0)))
  clear hr0_0 htab
  unfold laws_FnExactFormulaText.f at h
  replace h := Option.bind_eq_some_iff.mp h
  obtain ⟨s1, h1, h⟩ := h
  have H1 := Aside0.mk h1
  clear h1
  by_cases d1 : s1 < 0
  · clear h
    go_enter Tryd.func4, Tryd.ntmps4
    go_wp2_with (go_at_call 5; (with_reducible refine (laws_szFormula.calls k a0_0 _ _ l0_0 1048576 s1 _ (Kd.C_below HR.out HB1.out) hc0_0 H1.out).mono ?_); rintro e w2 ⟨rfl, hb2⟩)
    go_ret
    exact ⟨rfl, below_step HB1.out hb2⟩
  rw [if_neg d1] at h
  replace h := Option.bind_eq_some_iff.mp h
  obtain ⟨⟨xv, x⟩, hx, h⟩ := h
  replace h := Option.bind_eq_some_iff.mp h
  obtain ⟨ws1, hw, h⟩ := h
  replace h := Option.bind_eq_some_iff.mp h
  obtain ⟨g1, hg, h⟩ := h
  replace h := Option.bind_eq_some_iff.mp h
  obtain ⟨e2, he2, h⟩ := h
  by_cases hcond : g1 = ws1 ∧ e2 = true
  case neg => exact absurd h (by rw [if_neg hcond]; simp)
  obtain ⟨rfl, rfl⟩ := hcond
  have HX := Aside0.mk hx
  have HW := Aside0.mk hw
  have HG := Aside0.mk hg
  have HE2 := Aside0.mk he2
  clear hx hw hg he2 h
  go_enter Tryd.func4, Tryd.ntmps4
  go_wp2_with (first
    | (go_at_call 5; (with_reducible refine (laws_szFormula.calls k a0_0 _ _ l0_0 1048576 s1 _ (Kd.C_below HR.out HB1.out) hc0_0 H1.out).mono ?_); rintro e w2 ⟨rfl, hb2⟩; have HB3 := Aside0.mk (below_step HB1.out hb2); have HX3 := Aside0.mk (blk_below HBOX.out hb2); have x0 := (blk_cell HX3.out 0).trans rfl; have x0b := (blk_cell HX3.out 1).trans rfl; clear hb2)
    | (go_at_call 8; (with_reducible refine (laws_toFormula.calls k a0_0 _ _ l0_0 xv x _ (Kd.C_below HR.out HB3.out) hc0_0 HX.out).mono ?_); rintro e w4 ⟨v4, rfl, ho4, hb4⟩; obtain ⟨A4, c4, e4⟩ := Kd.S_slice ho4; subst e4; have HO4 := Aside0.mk ho4; have HB4 := Aside0.mk (below_step HB3.out hb4); have HX4 := Aside0.mk (blk_below HX3.out hb4); have x04 := (blk_cell HX4.out 0).trans rfl; have x04b := (blk_cell HX4.out 1).trans rfl; clear ho4 hb4)
    | (go_at_call 13; (with_reducible refine (spec_FormulaText.calls k xv _ _ x _ _ (Kd.S_reads' HO4.out).2.2 (Kd.S_reads' HO4.out).2.1 HW.out).mono ?_); rintro e w6 ⟨rfl, hb6⟩; have HB6 := Aside0.mk (below_step HB4.out hb6); have HX6 := Aside0.mk (blk_below HX4.out hb6); have x06 := (blk_cell HX6.out 0).trans rfl; have x06b := (blk_cell HX6.out 1).trans rfl; clear hb6))
  go_wp2_with (first
    | (go_at_call 8; (with_reducible refine (laws_toFormula.calls k a0_0 _ _ l0_0 xv x _ (Kd.C_below HR.out HB6.out) hc0_0 HX.out).mono ?_); rintro e w7 ⟨v7, rfl, ho7, hb7⟩; obtain ⟨A7, c7, e7⟩ := Kd.S_slice ho7; subst e7; have HBA := Aside0.mk (below_alloc (Below.refl w7.heap.size w7) (.cells #[.int .i64 xv, .slice A7 x.length c7] 29)); have HBOX7 := Aside0.mk (heap_alloc_new w7 (.cells #[.int .i64 xv, .slice A7 x.length c7] 29 (0, 0))); have HO7 := Aside0.mk (Kd.S_below ho7 HBA.out); have HB8 := Aside0.mk (below_step (below_step HB6.out hb7) HBA.out); have HX7 := Aside0.mk (blk_below HX6.out hb7); have x07 := (blk_cell HX7.out 0).trans rfl; have x07b := (blk_cell HX7.out 1).trans rfl; have HX8 := Aside0.mk (blk_below HX7.out HBA.out); clear ho7 hb7)
    | (go_at_call 14; (with_reducible refine (impl_FormulaText.calls k xv _ _ x _ _ (Kd.S_reads' HO7.out).2.2 (Kd.S_reads' HO7.out).2.1 (tab_below HT.out HB8.out) HG.out).mono ?_); rintro e w9 ⟨rfl, hb9⟩; have HB9 := Aside0.mk (below_step HB8.out hb9); have HO79 := Aside0.mk (Kd.S_below HO7.out hb9); have HX9 := Aside0.mk (blk_below HX8.out hb9); have HY9 := Aside0.mk (blk_below HBOX7.out hb9); have x09 := (blk_cell HX9.out 0).trans rfl; have x09b := (blk_cell HX9.out 1).trans rfl; have y09 := (blk_cell HY9.out 0).trans rfl; have y09b := (blk_cell HY9.out 1).trans rfl; clear hb9))
  have hns : (g1.data.toList != g1.data.toList) = false := by simp
  go_region_held3 (fun w' => w'.cell? ⟨w.heap.size, 0, none⟩ = some (.int .i64 a0_0) ∧ w'.cell? ⟨w.heap.size, 1, none⟩ = some (.slice A0_0 l0_0.length c0_0) ∧ w'.cell? ⟨w7.heap.size, 0, none⟩ = some (.int .i64 xv) ∧ w'.cell? ⟨w7.heap.size, 1, none⟩ = some (.slice A7 x.length c7))
    (first | go_keep | (go_split_ands; refine ⟨?_, ?_, ?_, ?_⟩ <;> exact pw_cell_below ‹Below _ _ _› (by assumption)) | (go_split_ands; exact pw_cell_below ‹Below _ _ _› (by assumption)))
    (first
      | (go_at_call 8; (with_reducible refine (laws_toFormula.calls k a0_0 _ _ l0_0 xv x _ (Kd.C_below HR.out (by with_reducible repeat (first | exact HB9.out | apply below_drew1))) hc0_0 HX.out).mono ?_); rintro e w11 ⟨v11, rfl, ho11, hb11⟩; have HBR := Aside0.mk ((fun (W : World) (h : Below w9.heap.size w9 W) (g : Below W.heap.size W w11) => below_step h g) _ (by with_reducible repeat (first | exact Below.refl _ _ | apply below_drew1)) hb11); obtain ⟨A11, c11, e11⟩ := Kd.S_slice ho11; subst e11; have HO11 := Aside0.mk (Kd.S_R ho11); have HO711 := Aside0.mk (Kd.S_below HO79.out HBR.out))
      | (go_at_call 11; (with_reducible refine (laws_eqFormula.calls k xv _ _ x xv _ _ x true _ (Kd.C_below (Kd.S_reads' HO711.out).2.2 (by with_reducible repeat (first | exact Below.refl _ _ | apply below_drew1))) (Kd.S_reads' HO711.out).2.1 (Kd.C_below (Kd.R_reads' HO11.out).2.2 (by with_reducible repeat (first | exact Below.refl _ _ | apply below_drew1))) (Kd.R_reads' HO11.out).2.1 HE2.out).mono ?_); rintro e w12 ⟨rfl, hb12⟩))
  rename_i hHeld
  have HBS := Aside0.mk ((fun (W : World) (h : Below w9.heap.size w9 W) (g : Below W.heap.size W w12) => below_step h g) _ (by with_reducible repeat (first | exact HBR.out | apply below_drew1)) hb12)
  have HB12 := Aside0.mk (below_step HB9.out HBS.out)
  clear hb11 hb12 hHeld
  go_wp2
  go_ret
  exact ⟨rfl, HB12.out⟩

end Go.Proofs.YtncianokahfkpaaDoor.Q
