/- Written by a program of this session (wip/tools/pp.py) out of the translation, with the kit's printer. -/
import Derived.Test.YtncianokahfkpaaDoorQ0
import Derived.Test.YtncianokahfkpaaDoorQGimplIsFormula
import Derived.Test.YtncianokahfkpaaDoorQGimplclausesText
import Derived.Test.YtncianokahfkpaaDoorQGimplformulaText
namespace Go.Proofs.YtncianokahfkpaaDoor.Q
open Go.RowKit Go.Proofs.YtncianokahfkpaaDoorW.PrintWords Go.Proofs.YtncianokahfkpaaDoorW.PrintLast Go.Proofs.YtncianokahfkpaaDoorW.PrintMore
attribute [local go_sem] max2_int min2_int max_two min_two max_three min_three max_four min_four
set_option linter.unusedVariables false
set_option linter.unusedSimpArgs false

/-! ### impl_FormulaText: walked by hand over formulaText -/
def impl_FormulaText.f (k : Nat) (a0_0 : Int) (l0_1 : List (List Int)) : Option ByteArray :=
  (impl_IsFormula.f k a0_0 l0_1).bind fun p => if p = true then (if (-9223372036854775808 ≤ a0_0 ∧ a0_0 ≤ 9223372036854775807) ∧ (∀ x ∈ l0_1, ∀ n ∈ x, -9223372036854775808 ≤ n ∧ n ≤ 9223372036854775807) ∧ (impl_clausesText.text l0_1).length ≤ 140737488355328 then some ⟨(impl_formulaText.head a0_0 l0_1.length ++ impl_clausesText.text l0_1).toArray⟩ else none) else some ⟨#[]⟩
set_option maxHeartbeats 1600000 in
theorem impl_FormulaText.calls (k : Nat) (a0_0 : Int) (A0_1 : Option Addr) (c0_1 : Nat) (l0_1 : List (List Int)) (r : ByteArray) (w : World) (hr0_1 : Kd.C (Kd.slice 2 (Kd.int .i64)) w A0_1 l0_1.length l0_1) (hc0_1 : l0_1.length ≤ c0_1)
    (htab : Lib.TabIs Tryd.prog w "internal/strconv.uint64pow10" .u64 Lib.pow10Tab) (h : impl_FormulaText.f k a0_0 l0_1 = some r) :
    Calls Tryd.prog 14 #[.agg #[.int .i64 a0_0, .slice A0_1 l0_1.length c0_1]] w fun e w' => e = .returned (.string r) ∧ Below w.heap.size w w' := by
  have hlen := hr0_1.2.1
  have HR := Aside0.mk hr0_1
  have HT := Aside0.mk htab
  have hu29 := Tryd.underlying29
  have HBL := Aside0.mk (below_alloc (Below.refl w.heap.size w) (.cells #[.int .i64 a0_0, .slice A0_1 l0_1.length c0_1] 29))
  have HB0 := Aside0.mk (heap_alloc_new w (.cells #[.int .i64 a0_0, .slice A0_1 l0_1.length c0_1] 29 (0, 0)))
  clear hr0_1 htab
  unfold impl_FormulaText.f at h
  obtain ⟨p, hp, h1⟩ := Option.bind_eq_some_iff.mp h
  clear h
  have HP := Aside0.mk hp
  clear hp
  cases p with
  | true =>
    rw [if_pos rfl] at h1
    by_cases hq : (-9223372036854775808 ≤ a0_0 ∧ a0_0 ≤ 9223372036854775807) ∧ (∀ x ∈ l0_1, ∀ n ∈ x, -9223372036854775808 ≤ n ∧ n ≤ 9223372036854775807) ∧ (impl_clausesText.text l0_1).length ≤ 140737488355328
    case neg => rw [if_neg hq] at h1; cases h1
    rw [if_pos hq] at h1
    obtain rfl := Option.some.inj h1
    have HQ := Aside0.mk hq
    clear h1 hq
    go_enter Tryd.func14, Tryd.ntmps14
    go_wp2_with (first
      | (go_at_call 24; (with_reducible refine (impl_IsFormula.calls k _ _ _ l0_1 true _ (Kd.C_below HR.out HBL.out) hc0_1 HP.out).mono ?_); rintro e w1 ⟨rfl, hd1⟩; have HD1 := Aside0.mk (below_step HBL.out hd1); have HX := Aside0.mk (blk_below HB0.out hd1); have x0 := (blk_cell HX.out 0).trans rfl; have x1 := (blk_cell HX.out 1).trans rfl)
      | (go_at_call 25; refine (impl_formulaText.calls _ _ _ l0_1 _ (Kd.C_below HR.out HD1.out) hc0_1 (tab_below HT.out HD1.out) HQ.out.1 HQ.out.2.1 HQ.out.2.2).mono ?_; rintro e w2 ⟨rfl, hb2⟩))
    go_ret
    exact ⟨rfl, below_step HD1.out hb2⟩
  | false =>
    rw [if_neg (by decide)] at h1
    obtain rfl := Option.some.inj h1
    go_enter Tryd.func14, Tryd.ntmps14
    go_wp2_with (go_at_call 24; (with_reducible refine (impl_IsFormula.calls k _ _ _ l0_1 false _ (Kd.C_below HR.out HBL.out) hc0_1 HP.out).mono ?_); rintro e w1 ⟨rfl, hd1⟩)
    go_ret
    exact ⟨rfl, below_step HBL.out hd1⟩

end Go.Proofs.YtncianokahfkpaaDoor.Q
