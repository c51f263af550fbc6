/- Written by a program of this session (wip/tools/pp.py) out of the translation, with the kit's printer. -/
import Derived.Test.YtlnhjaokcgcdpaaQ0
import Derived.Test.YtlnhjaokcgcdpaaQ9
import Derived.Test.YtlnhjaokcgcdpaaQGimplbeside
import Derived.LoopTactic
namespace Go.Proofs.Ytlnhjaokcgcdpaa.Q
open Go.RowKit Go.Proofs.YtlnhjaokcgcdpaaW.PrintWords Go.Proofs.YtlnhjaokcgcdpaaW.PrintLast Go.Proofs.YtlnhjaokcgcdpaaW.PrintMore
attribute [local go_sem] max2_int min2_int max_two min_two max_three min_three max_four min_four
set_option linter.unusedVariables false
set_option linter.unusedSimpArgs false

/-! ### impl_RingOf: walked by hand -/
def okC (l : List S34) : Bool := decide (l.length ≤ 1000) && l.all fun c => decide (-1000000 ≤ c.f0 ∧ c.f0 ≤ 1000000 ∧ -1000000 ≤ c.f1 ∧ c.f1 ≤ 1000000)
theorem okC_iff {l : List S34} (h : okC l = true) : l.length ≤ 1000 ∧ ∀ c ∈ l, bndC c := by
  unfold okC at h
  rw [Bool.and_eq_true, List.all_eq_true] at h
  exact ⟨of_decide_eq_true h.1, fun c hc => by
    have h9 := of_decide_eq_true (h.2 c hc)
    exact h9⟩
def impl_RingOf.f (k : Nat) (l0 : List S34) : Option (List S34 × Int) :=
  (impl_IsShape.f k l0).bind fun b => if b = true then (if okC l0 = true then some (besC l0, 0) else none) else some ([], 1)
theorem impl_RingOf.mono : ∀ a0 k, LeO (impl_RingOf.f k a0) (impl_RingOf.f (k + 1) a0) := by
  intro a0 k
  unfold impl_RingOf.f
  exact LeO.bind (impl_IsShape.mono _ _) (fun _ => LeO.refl _)
set_option maxRecDepth 100000 in
set_option maxHeartbeats 1000000 in
theorem impl_RingOf.calls (k : Nat) (A0 : Option Addr) (c0 : Nat) (l0 : List S34) (r1 : List S34) (r2 : Int) (w : World) (hr0 : Kd.C k34 w A0 l0.length l0) (hc0 : l0.length ≤ c0) (h : impl_RingOf.f k l0 = some (r1, r2)) :
    Calls Try.prog 7 #[.slice A0 l0.length c0] w fun e w' => ∃ v0_ : Value, e = .returned (.tuple #[v0_, .int .i64 r2]) ∧ Kd.R k34 34 w' w.heap.size (fun _ => True) v0_ r1 ∧ Below w.heap.size w w' := by
  have HR := am hr0
  have HC := am hc0
  clear hr0 hc0
  unfold impl_RingOf.f at h
  obtain ⟨b, h1, h2⟩ := ob h
  have HS := am h1
  clear h h1
  cases b with
  | false =>
    rw [if_neg (by simp)] at h2
    obtain ⟨rfl, rfl⟩ := Prod.mk.inj (oi h2)
    clear h2
    go_enter Try.func7, Try.ntmps7
    go_wp2_with ((go_at_call 14); (refine (impl_IsShape.calls k A0 c0 l0 false _ HR.out HC.out HS.out).mono ?_); (rintro e w5 ⟨rfl, hB5⟩); have HB := am hB5; clear hB5)
    go_ret2
    exact ⟨_, rfl, Kd.R_nil _ _ _ _ _, HB.out⟩
  | true =>
    rw [if_pos rfl] at h2
    by_cases hok : okC l0 = true
    · rw [if_pos hok] at h2
      obtain ⟨rfl, rfl⟩ := Prod.mk.inj (oi h2)
      have HOK := am (okC_iff hok)
      clear h2 hok
      go_enter Try.func7, Try.ntmps7
      go_wp2_with (first
        | ((go_at_call 14); (refine (impl_IsShape.calls k A0 c0 l0 true _ HR.out HC.out HS.out).mono ?_); (rintro e w5 ⟨rfl, hB5⟩); have HB := am hB5; clear hB5)
        | ((go_at_call 15); (refine (impl_beside.corners A0 c0 l0 _ (Kd.C_below HR.out HB.out) HC.out HOK.out.1 HOK.out.2).mono ?_); (rintro e w6 ⟨v6, rfl, hR6, hB6⟩); have n0_ := am (Kd.R_lower hR6 (Bb5 HB.out)); have n1_ := am (Bb6 HB.out hB6); clear HB hR6 hB6; have HO := n0_; have HB := n1_; clear n0_ n1_))
      go_ret2
      exact ⟨_, rfl, HO.out, HB.out⟩
    · rw [if_neg hok] at h2
      cases h2

end Go.Proofs.Ytlnhjaokcgcdpaa.Q
