/- Written by a program of this session (wip/tools/pp.py) out of the translation, with the kit's printer. -/
import Derived.Test.YtjgnlakgojookaaQ0
import Derived.Test.YtjgnlakgojookaaQ9
import Derived.Test.YtjgnlakgojookaaQGimplframeleaves
import Derived.Test.YtjgnlakgojookaaQGimplreadOffsets
namespace Go.Proofs.Ytjgnlakgojookaa.Q
open Go.RowKit Go.Proofs.YtjgnlakgojookaaW.PrintWords Go.Proofs.YtjgnlakgojookaaW.PrintLast Go.Proofs.YtjgnlakgojookaaW.PrintMore
attribute [local go_sem] max2_int min2_int max_two min_two max_three min_three max_four min_four
set_option linter.unusedVariables false
set_option linter.unusedSimpArgs false

/-! ### impl_DoesLeave: walked by hand -/
def impl_DoesLeave.f (k : Nat) (l0_0 : List (List S71)) (l1 : List S71) (a2 a3 : Int) : Option (Bool × Int) :=
  (impl_readOffsets.f k l0_0 l1).bind fun c => if c = 0 then (if 0 ≤ a2 ∧ a2 ≤ (l0_0.length : Int) - 1 then (if 0 ≤ a3 ∧ a3 ≤ 5 then (if l1.length = l0_0.length then some (leavesG l0_0 l1 a2 a3 40 (rd_T71 l1 a2), 0) else none) else some (false, 4)) else some (false, 4)) else some (false, c)
theorem impl_DoesLeave.mono : ∀ a0 a1 a2 a3 k, LeO (impl_DoesLeave.f k a0 a1 a2 a3) (impl_DoesLeave.f (k + 1) a0 a1 a2 a3) := by
  intro a0 a1 a2 a3 k
  unfold impl_DoesLeave.f
  exact LeO.bind (impl_readOffsets.mono _ _ _) (fun _ => LeO.refl _)
theorem within_in (a b c : Int) : impl_within.f a b c = some (decide (b ≤ a) && decide (a ≤ c)) := by
  unfold impl_within.f
  by_cases h : a ≥ b
  · rw [if_pos h]; simp [h]
  · rw [if_neg h]; simp; omega
set_option maxRecDepth 100000 in
set_option maxHeartbeats 2000000 in
theorem impl_DoesLeave.calls (k : Nat) (A0_0 : Option Addr) (c0_0 : Nat) (l0_0 : List (List S71)) (A1 : Option Addr) (c1 : Nat) (l1 : List S71) (a2 a3 : Int) (r1 : Bool) (r2 : Int) (w : World) (hr0_0 : Kd.C (Kd.slice 71 k71) w A0_0 l0_0.length l0_0) (hc0_0 : l0_0.length ≤ c0_0) (hr1 : Kd.C k71 w A1 l1.length l1) (hc1 : l1.length ≤ c1) (h : impl_DoesLeave.f k l0_0 l1 a2 a3 = some (r1, r2)) :
    Calls Try.prog 26 #[.agg #[.slice A0_0 l0_0.length c0_0], .slice A1 l1.length c1, .int .i64 a2, .int .i64 a3] w fun e w' => e = .returned (.tuple #[.bool r1, .int .i64 r2]) ∧ Below w.heap.size w w' := by
  have HR := Aside0.mk hr0_0
  have HR1 := Aside0.mk hr1
  have hlen := hr0_0.2.1
  have HB1 := Aside0.mk (below_alloc (Below.refl w.heap.size w) (.cells #[.slice A0_0 l0_0.length c0_0] 29))
  have HBOX := Aside0.mk (heap_alloc_new w (.cells #[.slice A0_0 l0_0.length c0_0] 29 (0, 0)))
  have hu29 := Try.underlying29
  clear hr0_0 hr1
  unfold impl_DoesLeave.f at h
  obtain ⟨c, hc, h⟩ := Option.bind_eq_some_iff.mp h
  have HC := Aside0.mk hc
  clear hc
  have HW2 := Aside0.mk (within_in a2 0 ((l0_0.length : Int) - 1))
  have HW3 := Aside0.mk (within_in a3 0 5)
  by_cases hc0 : c = 0
  · rw [if_pos hc0] at h
    subst hc0
    by_cases h2 : 0 ≤ a2 ∧ a2 ≤ (l0_0.length : Int) - 1
    · rw [if_pos h2] at h
      rw [show (decide (0 ≤ a2) && decide (a2 ≤ (l0_0.length : Int) - 1)) = true by simp; omega] at HW2
      by_cases h3 : 0 ≤ a3 ∧ a3 ≤ 5
      · rw [if_pos h3] at h
        rw [show (decide (0 ≤ a3) && decide (a3 ≤ 5)) = true by simp; omega] at HW3
        by_cases h4 : l1.length = l0_0.length
        case neg => rw [if_neg h4] at h; exact absurd h (by simp)
        rw [if_pos h4] at h
        simp only [Option.some.injEq, Prod.mk.injEq] at h
        obtain ⟨hq1, rfl⟩ := h
        have HQ := Aside0.mk hq1
        have hle : l1.length ≤ l0_0.length := Nat.le_of_eq h4
        have hge : l0_0.length ≤ l1.length := Nat.le_of_eq h4.symm
        obtain ⟨h20, h21⟩ := h2
        obtain ⟨h30, h31⟩ := h3
        clear hq1 h4
        go_enter Try.func26, Try.ntmps26
        go_wp2_with (first
          | (go_at_call 74; (with_reducible refine (impl_readOffsets.calls k _ _ l0_0 _ _ l1 _ _ (Kd.C_below HR.out HB1.out) hc0_0 (Kd.C_below HR1.out HB1.out) hc1 HC.out).mono ?_); rintro e w2 (⟨_, g1, g4, F, M, rfl, hf2⟩ | ⟨hne, _⟩); (focus (have HF2 := Aside0.mk hf2; have HX2 := Aside0.mk (blk_below HBOX.out hf2.bel); have x0 := (blk_cell HX2.out 0).trans rfl; clear hf2)); (rotate_left; exact absurd rfl hne))
          | (go_at_call 75; (with_reducible refine (impl_within.calls _ _ _ _ _ HW2.out).mono ?_); rintro e w3 ⟨rfl, hd3⟩)
          | (go_at_call 75; (with_reducible refine (impl_within.calls _ _ _ _ _ HW3.out).mono ?_); rintro e w4 ⟨rfl, hd4⟩)
          | (go_at_call 76; refine (impl_frame_leaves.calls _ w4 F M A0_0 c0_0 l0_0 16 A1 c1 l1 a2 a3 ((HF2.out.below hd3.below).below hd4.below) (Kd.C_below HR1.out (below_step (below_step (below_step HB1.out HF2.out.bel) hd3.below) hd4.below)) hle (by omega) h20 (by omega) h30 (by omega) (by omega)).mono ?_; rintro e w5 ⟨rfl, hf5, hk5⟩))
        go_ret2
        exact ⟨by rw [← HQ.out]; rfl, below_step HB1.out hf5.bel⟩
      · rw [if_neg h3] at h
        rw [show (decide (0 ≤ a3) && decide (a3 ≤ 5)) = false by simp; omega] at HW3
        simp only [Option.some.injEq, Prod.mk.injEq] at h
        obtain ⟨rfl, rfl⟩ := h
        clear h2 h3
        go_enter Try.func26, Try.ntmps26
        go_wp2_with (first
          | (go_at_call 74; (with_reducible refine (impl_readOffsets.calls k _ _ l0_0 _ _ l1 _ _ (Kd.C_below HR.out HB1.out) hc0_0 (Kd.C_below HR1.out HB1.out) hc1 HC.out).mono ?_); rintro e w2 (⟨_, g1, g4, F, M, rfl, hf2⟩ | ⟨hne, _⟩); (focus (have HF2 := Aside0.mk hf2; have HX2 := Aside0.mk (blk_below HBOX.out hf2.bel); have x0 := (blk_cell HX2.out 0).trans rfl; clear hf2)); (rotate_left; exact absurd rfl hne))
          | (go_at_call 75; (with_reducible refine (impl_within.calls _ _ _ _ _ HW2.out).mono ?_); rintro e w3 ⟨rfl, hd3⟩)
          | (go_at_call 75; (with_reducible refine (impl_within.calls _ _ _ _ _ HW3.out).mono ?_); rintro e w4 ⟨rfl, hd4⟩))
        go_ret2
        exact ⟨rfl, below_step (below_step (below_step HB1.out HF2.out.bel) hd3.below) hd4.below⟩
    · rw [if_neg h2] at h
      rw [show (decide (0 ≤ a2) && decide (a2 ≤ (l0_0.length : Int) - 1)) = false by simp; omega] at HW2
      simp only [Option.some.injEq, Prod.mk.injEq] at h
      obtain ⟨rfl, rfl⟩ := h
      clear h2
      go_enter Try.func26, Try.ntmps26
      go_wp2_with (first
        | (go_at_call 74; (with_reducible refine (impl_readOffsets.calls k _ _ l0_0 _ _ l1 _ _ (Kd.C_below HR.out HB1.out) hc0_0 (Kd.C_below HR1.out HB1.out) hc1 HC.out).mono ?_); rintro e w2 (⟨_, g1, g4, F, M, rfl, hf2⟩ | ⟨hne, _⟩); (focus (have HF2 := Aside0.mk hf2; have HX2 := Aside0.mk (blk_below HBOX.out hf2.bel); have x0 := (blk_cell HX2.out 0).trans rfl; clear hf2)); (rotate_left; exact absurd rfl hne))
        | (go_at_call 75; (with_reducible refine (impl_within.calls _ _ _ _ _ HW2.out).mono ?_); rintro e w3 ⟨rfl, hd3⟩))
      go_ret2
      exact ⟨rfl, below_step (below_step HB1.out HF2.out.bel) hd3.below⟩
  · rw [if_neg hc0] at h
    simp only [Option.some.injEq, Prod.mk.injEq] at h
    obtain ⟨rfl, rfl⟩ := h
    have hb0 : (c == 0) = false := by simpa using hc0
    have hb1 : (c != 0) = true := by simpa using hc0
    have HNE := Aside0.mk hc0
    clear hc0
    go_enter Try.func26, Try.ntmps26
    go_wp2_with (first
      | (go_at_call 74; (with_reducible refine (impl_readOffsets.calls k _ _ l0_0 _ _ l1 _ _ (Kd.C_below HR.out HB1.out) hc0_0 (Kd.C_below HR1.out HB1.out) hc1 HC.out).mono ?_); rintro e w2 (⟨h0, _⟩ | ⟨_, rfl, hb2⟩); (exact absurd h0 HNE.out)))
    go_ret2
    exact ⟨rfl, below_step HB1.out hb2⟩

end Go.Proofs.Ytjgnlakgojookaa.Q
