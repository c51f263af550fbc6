/- Written by a program of this session (wip/tools/pp.py) out of the translation, with the kit's printer. -/
import Derived.Test.YtncianokahfkpaaDoorQ0
import Derived.Test.YtncianokahfkpaaDoorQGimplproofCode
import Derived.Test.YtncianokahfkpaaDoorQGimplclausesText
namespace Go.Proofs.YtncianokahfkpaaDoor.Q
open Go.RowKit Go.Proofs.YtncianokahfkpaaDoorW.PrintWords Go.Proofs.YtncianokahfkpaaDoorW.PrintLast Go.Proofs.YtncianokahfkpaaDoorW.PrintMore
attribute [local go_sem] max2_int min2_int max_two min_two max_three min_three max_four min_four
set_option linter.unusedVariables false
set_option linter.unusedSimpArgs false

/-! ### impl_ProofText: walked by hand over clausesText -/
def impl_ProofText.f (k : Nat) (a0_0 : Int) (l0_1 l1 : List (List Int)) : Option (ByteArray × Int) :=
  (impl_proofCode.f k a0_0 l0_1 l1).bind fun c => if c = 0 then (if (∀ x ∈ l1, ∀ n ∈ x, -9223372036854775808 ≤ n ∧ n ≤ 9223372036854775807) ∧ (impl_clausesText.text l1).length ≤ 140737488355328 then some (⟨(impl_clausesText.text l1).toArray⟩, 0) else none) else some (ByteArray.empty, c)
set_option maxHeartbeats 1600000 in
theorem impl_ProofText.calls (k : Nat) (a0_0 : Int) (A0_1 : Option Addr) (c0_1 : Nat) (l0_1 : List (List Int)) (A1 : Option Addr) (c1 : Nat) (l1 : List (List Int)) (r : ByteArray × Int) (w : World) (hr0_1 : Kd.C (Kd.slice 2 (Kd.int .i64)) w A0_1 l0_1.length l0_1) (hc0_1 : l0_1.length ≤ c0_1) (hr1 : Kd.C (Kd.slice 2 (Kd.int .i64)) w A1 l1.length l1) (hc1 : l1.length ≤ c1)
    (htab : Lib.TabIs Tryd.prog w "internal/strconv.uint64pow10" .u64 Lib.pow10Tab) (h : impl_ProofText.f k a0_0 l0_1 l1 = some r) :
    Calls Tryd.prog 10 #[.agg #[.int .i64 a0_0, .slice A0_1 l0_1.length c0_1], .slice A1 l1.length c1] w fun e w' => e = .returned (.tuple #[.string r.1, .int .i64 r.2]) ∧ Below w.heap.size w w' := by
  have hlen := hr0_1.2.1
  have hlen1 := hr1.2.1
  have HR := Aside0.mk hr0_1
  have HR1 := Aside0.mk hr1
  have HT := Aside0.mk htab
  have HBL := Aside0.mk (below_alloc (Below.refl w.heap.size w) (.cells #[.int .i64 a0_0, .slice A0_1 l0_1.length c0_1] 29))
  clear hr0_1 hr1 htab
  unfold impl_ProofText.f at h
  obtain ⟨p, hp, h1⟩ := Option.bind_eq_some_iff.mp h
  clear h
  have HP := Aside0.mk hp
  clear hp
  by_cases hp0 : p = 0
  · rw [if_pos hp0] at h1
    by_cases hq : (∀ x ∈ l1, ∀ n ∈ x, -9223372036854775808 ≤ n ∧ n ≤ 9223372036854775807) ∧ (impl_clausesText.text l1).length ≤ 140737488355328
    case neg => rw [if_neg hq] at h1; cases h1
    rw [if_pos hq] at h1
    obtain rfl := Option.some.inj h1
    have HQ := Aside0.mk hq
    clear h1 hq
    subst hp0
    go_enter Tryd.func10, Tryd.ntmps10
    go_wp2_with (first
      | (go_at_call 19; (with_reducible refine (impl_proofCode.calls k _ _ _ l0_1 _ _ l1 0 _ (Kd.C_below HR.out HBL.out) hc0_1 (Kd.C_below HR1.out HBL.out) hc1 HP.out).mono ?_); rintro e w1 ⟨rfl, hd1⟩; have HD1 := Aside0.mk (below_step HBL.out hd1))
      | (go_at_call 20; refine (impl_clausesText.calls _ _ l1 _ (Kd.C_below HR1.out HD1.out) hc1 (tab_below HT.out HD1.out) HQ.out.1 HQ.out.2).mono ?_; rintro e w2 ⟨rfl, hb2⟩))
    go_ret2
    exact ⟨rfl, below_step HD1.out hb2⟩
  · rw [if_neg hp0] at h1
    obtain rfl := Option.some.inj h1
    have hpe : (p == 0) = false := beq_eq_false_iff_ne.mpr hp0
    have hpe' : (p != 0) = true := bne_iff_ne.mpr hp0
    go_enter Tryd.func10, Tryd.ntmps10
    go_wp2_with (go_at_call 19; (with_reducible refine (impl_proofCode.calls k _ _ _ l0_1 _ _ l1 p _ (Kd.C_below HR.out HBL.out) hc0_1 (Kd.C_below HR1.out HBL.out) hc1 HP.out).mono ?_); rintro e w1 ⟨rfl, hd1⟩)
    go_ret2
    exact ⟨rfl, below_step HBL.out hd1⟩

end Go.Proofs.YtncianokahfkpaaDoor.Q
