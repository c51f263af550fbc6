/- Written by a program of this session (wip/tools/pp.py) out of the translation, with the kit's printer. -/
import Derived.Test.YtjgnlakgojookaaQ0
import Derived.Test.YtjgnlakgojookaaQGimplreadOffsets
import Derived.Test.YtjgnlakgojookaaQGimplframeafter
namespace Go.Proofs.Ytjgnlakgojookaa.Q
open Go.RowKit Go.Proofs.YtjgnlakgojookaaW.PrintWords Go.Proofs.YtjgnlakgojookaaW.PrintLast Go.Proofs.YtjgnlakgojookaaW.PrintMore
attribute [local go_sem] max2_int min2_int max_two min_two max_three min_three max_four min_four
set_option linter.unusedVariables false
set_option linter.unusedSimpArgs false

/-! ### impl_MakeMove: walked by hand -/
def impl_MakeMove.f (k : Nat) (l0_0 : List (List S71)) (l1 : List S71) (p : Int) : Option (List S71 × Int) :=
  (impl_readOffsets.f k l0_0 l1).bind fun c => if c = 0 then (if l1.length = l0_0.length ∧ p ≤ 9223372036854775807 then some (if possG l0_0 l1 p = true then (aftG (p / 6).toNat (p % 6) 0 l1, 0) else ([], 5)) else none) else some ([], c)
theorem impl_MakeMove.mono : ∀ a0 a1 p k, LeO (impl_MakeMove.f k a0 a1 p) (impl_MakeMove.f (k + 1) a0 a1 p) := by
  intro a0 a1 p k
  unfold impl_MakeMove.f
  exact LeO.bind (impl_readOffsets.mono _ _ _) (fun _ => LeO.refl _)
set_option maxRecDepth 100000 in
set_option maxHeartbeats 2000000 in
theorem impl_MakeMove.calls (k : Nat) (A0_0 : Option Addr) (c0_0 : Nat) (l0_0 : List (List S71)) (A1 : Option Addr) (c1 : Nat) (l1 : List S71) (p : Int) (r1 : List S71) (r2 : Int) (w : World) (hr0_0 : Kd.C (Kd.slice 71 k71) w A0_0 l0_0.length l0_0) (hc0_0 : l0_0.length ≤ c0_0) (hr1 : Kd.C k71 w A1 l1.length l1) (hc1 : l1.length ≤ c1) (h : impl_MakeMove.f k l0_0 l1 p = some (r1, r2)) :
    Calls Try.prog 35 #[.agg #[.slice A0_0 l0_0.length c0_0], .slice A1 l1.length c1, .int .i64 p] w fun e w' => ∃ v0_ : Value, e = .returned (.tuple #[v0_, .int .i64 r2]) ∧ Kd.R k71 71 w' w.heap.size (fun _ => True) v0_ r1 ∧ Below w.heap.size w w' := by
  have HR := Aside0.mk hr0_0
  have HR1 := Aside0.mk hr1
  have HB1 := Aside0.mk (below_alloc (Below.refl w.heap.size w) (.cells #[.slice A0_0 l0_0.length c0_0] 29))
  have hu29 := Try.underlying29
  clear hr0_0 hr1
  unfold impl_MakeMove.f at h
  obtain ⟨c, hc, h⟩ := Option.bind_eq_some_iff.mp h
  have HC := Aside0.mk hc
  clear hc
  by_cases hc0 : c = 0
  · rw [if_pos hc0] at h
    subst hc0
    by_cases h4 : l1.length = l0_0.length ∧ p ≤ 9223372036854775807
    case neg => rw [if_neg h4] at h; exact absurd h (by simp)
    rw [if_pos h4] at h
    obtain ⟨h4, hp⟩ := h4
    have HL := Aside0.mk h4
    have hle : l1.length ≤ l0_0.length := Nat.le_of_eq h4
    clear h4
    cases hq : possG l0_0 l1 p with
    | true =>
      rw [hq, if_pos rfl] at h
      simp only [Option.some.injEq, Prod.mk.injEq] at h
      obtain ⟨hq1, rfl⟩ := h
      have hbad : resG l0_0.length l1 p = aftG (p / 6).toNat (p % 6) 0 l1 := by
        unfold possG at hq
        unfold resG
        by_cases hb : badM l0_0.length p = true
        · rw [if_pos hb] at hq; cases hq
        · rw [if_neg hb]
      have HQ := Aside0.mk (hbad.trans hq1)
      clear hq1 hbad
      go_enter Try.func35, Try.ntmps35
      go_wp2_with (first
        | (go_at_call 74; (with_reducible refine (impl_readOffsets.calls k _ _ l0_0 _ _ l1 _ _ (Kd.C_below HR.out (by first | exact HB1.out | exact Below.refl _ _)) hc0_0 (Kd.C_below HR1.out (by first | exact HB1.out | exact Below.refl _ _)) hc1 HC.out).mono ?_); rintro e w2 (⟨_, g1, g4, F, M, rfl, hf2⟩ | ⟨hne, _⟩); (focus (have HF2 := Aside0.mk hf2; have HB2 := Aside0.mk (show Below w.heap.size w w2 from (by first | exact below_step HB1.out HF2.out.bel | exact HF2.out.bel)); clear hf2)); (rotate_left; exact absurd rfl hne))
        | (go_at_call 81; refine (impl_frame_after.calls _ w2 F M A0_0 c0_0 l0_0 16 A1 c1 l1 p HF2.out (Kd.C_below HR1.out HB2.out) hc1 HL.out g1 g4 hp (by omega)).mono ?_; rintro e w3 ⟨v3, rfl, ho3, hf3, hk3⟩))
      go_ret2
      exact ⟨_, rfl, HQ.out ▸ Kd.R_lower ho3 HB2.out.size, (by first | exact below_step HB1.out hf3.bel | exact hf3.bel)⟩
    | false =>
      rw [hq, if_neg (by simp)] at h
      simp only [Option.some.injEq, Prod.mk.injEq] at h
      obtain ⟨rfl, rfl⟩ := h
      go_enter Try.func35, Try.ntmps35
      go_wp2_with (first
        | (go_at_call 74; (with_reducible refine (impl_readOffsets.calls k _ _ l0_0 _ _ l1 _ _ (Kd.C_below HR.out (by first | exact HB1.out | exact Below.refl _ _)) hc0_0 (Kd.C_below HR1.out (by first | exact HB1.out | exact Below.refl _ _)) hc1 HC.out).mono ?_); rintro e w2 (⟨_, g1, g4, F, M, rfl, hf2⟩ | ⟨hne, _⟩); (focus (have HF2 := Aside0.mk hf2; have HB2 := Aside0.mk (show Below w.heap.size w w2 from (by first | exact below_step HB1.out HF2.out.bel | exact HF2.out.bel)); clear hf2)); (rotate_left; exact absurd rfl hne))
        | (go_at_call 81; refine (impl_frame_after.calls _ w2 F M A0_0 c0_0 l0_0 16 A1 c1 l1 p HF2.out (Kd.C_below HR1.out HB2.out) hc1 HL.out g1 g4 hp (by omega)).mono ?_; rintro e w3 ⟨v3, rfl, ho3, hf3, hk3⟩))
      go_ret2
      exact ⟨_, rfl, Kd.R_nil _ _ _ _ _, (by first | exact below_step HB1.out hf3.bel | exact hf3.bel)⟩
  · rw [if_neg hc0] at h
    simp only [Option.some.injEq, Prod.mk.injEq] at h
    obtain ⟨rfl, rfl⟩ := h
    have hb0 : (c == 0) = false := by simpa using hc0
    have hb1 : (c != 0) = true := by simpa using hc0
    have HNE := Aside0.mk hc0
    clear hc0
    go_enter Try.func35, Try.ntmps35
    go_wp2_with (first
      | (go_at_call 74; (with_reducible refine (impl_readOffsets.calls k _ _ l0_0 _ _ l1 _ _ (Kd.C_below HR.out (by first | exact HB1.out | exact Below.refl _ _)) hc0_0 (Kd.C_below HR1.out (by first | exact HB1.out | exact Below.refl _ _)) hc1 HC.out).mono ?_); rintro e w2 (⟨h0, _⟩ | ⟨_, rfl, hb2⟩); (exact absurd h0 HNE.out)))
    go_ret2
    exact ⟨_, rfl, Kd.R_nil _ _ _ _ _, (by first | exact below_step HB1.out hb2 | exact hb2)⟩

end Go.Proofs.Ytjgnlakgojookaa.Q
