/- Written by a program of this session (wip/tools/pp.py) out of the translation, with the kit's printer. -/
import Derived.Test.YtjgnlakgojookaaQ0
import Derived.Test.YtjgnlakgojookaaQGimplreadOffsets
import Derived.Test.YtjgnlakgojookaaQ31
namespace Go.Proofs.Ytjgnlakgojookaa.Q
open Go.RowKit Go.Proofs.YtjgnlakgojookaaW.PrintWords Go.Proofs.YtjgnlakgojookaaW.PrintLast Go.Proofs.YtjgnlakgojookaaW.PrintMore
attribute [local go_sem] max2_int min2_int max_two min_two max_three min_three max_four min_four
set_option linter.unusedVariables false
set_option linter.unusedSimpArgs false

/-! ### impl_MovedParts: walked by hand -/
def impl_MovedParts.f (k : Nat) (l0_0 : List (List S71)) (l1 : List S71) : Option (List (List S71) × Int) :=
  (impl_readOffsets.f k l0_0 l1).bind fun c => if c = 0 then ((impl_movedParts.f k l0_0 l1).bind fun t => some (t, 0)) else some ([], c)
theorem impl_MovedParts.mono : ∀ a0 a1 k, LeO (impl_MovedParts.f k a0 a1) (impl_MovedParts.f (k + 1) a0 a1) := by
  intro a0 a1 k
  unfold impl_MovedParts.f
  exact LeO.bind (impl_readOffsets.mono _ _ _) (fun _ => LeO.ite (LeO.bind (impl_movedParts.mono _ _ _) (fun _ => LeO.refl _)) (LeO.refl _))
set_option maxRecDepth 100000 in
set_option maxHeartbeats 2000000 in
theorem impl_MovedParts.calls (k : Nat) (A0_0 : Option Addr) (c0_0 : Nat) (l0_0 : List (List S71)) (A1 : Option Addr) (c1 : Nat) (l1 : List S71) (r1 : List (List S71)) (r2 : Int) (w : World) (hr0_0 : Kd.C (Kd.slice 71 k71) w A0_0 l0_0.length l0_0) (hc0_0 : l0_0.length ≤ c0_0) (hr1 : Kd.C k71 w A1 l1.length l1) (hc1 : l1.length ≤ c1) (h : impl_MovedParts.f k l0_0 l1 = some (r1, r2)) :
    Calls Try.prog 28 #[.agg #[.slice A0_0 l0_0.length c0_0], .slice A1 l1.length c1] w fun e w' => ∃ v0_ : Value, e = .returned (.tuple #[v0_, .int .i64 r2]) ∧ Kd.S (Kd.slice 71 k71) 36 w' w.heap.size (fun _ => True) v0_ r1 ∧ Below w.heap.size w w' := by
  have HR := Aside0.mk hr0_0
  have HR1 := Aside0.mk hr1
  have HB1 := Aside0.mk (below_alloc (Below.refl w.heap.size w) (.cells #[.slice A0_0 l0_0.length c0_0] 29))
  have HBOX := Aside0.mk (heap_alloc_new w (.cells #[.slice A0_0 l0_0.length c0_0] 29 (0, 0)))
  have hu29 := Try.underlying29
  clear hr0_0 hr1
  unfold impl_MovedParts.f at h
  obtain ⟨c, hc, h⟩ := Option.bind_eq_some_iff.mp h
  have HC := Aside0.mk hc
  clear hc
  by_cases hc0 : c = 0
  · rw [if_pos hc0] at h
    subst hc0
    obtain ⟨t, ht, h⟩ := Option.bind_eq_some_iff.mp h
    simp only [Option.some.injEq, Prod.mk.injEq] at h
    obtain ⟨rfl, rfl⟩ := h
    have HT := Aside0.mk ht
    clear ht
    go_enter Try.func28, Try.ntmps28
    go_wp2_with (first
      | (go_at_call 74; (with_reducible refine (impl_readOffsets.calls k _ _ l0_0 _ _ l1 _ _ (Kd.C_below HR.out (by first | exact HB1.out | exact Below.refl _ _)) hc0_0 (Kd.C_below HR1.out (by first | exact HB1.out | exact Below.refl _ _)) hc1 HC.out).mono ?_); rintro e w2 (⟨_, g1, g4, F, M, rfl, hf2⟩ | ⟨hne, _⟩); (focus (have HB2 := Aside0.mk hf2.bel; have HX2 := Aside0.mk (blk_below HBOX.out HB2.out); have x0 := (blk_cell HX2.out 0).trans rfl; clear hf2)); (rotate_left; exact absurd rfl hne))
      | (go_at_call 78; (with_reducible refine (impl_movedParts.calls k _ _ l0_0 _ _ l1 _ _ (Kd.C_below HR.out (below_step HB1.out HB2.out)) hc0_0 (Kd.C_below HR1.out (below_step HB1.out HB2.out)) hc1 HT.out).mono ?_); rintro e w3 ⟨v3, rfl, ho3, hb3⟩))
    go_ret2
    exact ⟨_, rfl, Kd.S_lower ho3 (below_step HB1.out HB2.out).size, below_step (below_step HB1.out HB2.out) hb3⟩
  · rw [if_neg hc0] at h
    simp only [Option.some.injEq, Prod.mk.injEq] at h
    obtain ⟨rfl, rfl⟩ := h
    have hb0 : (c == 0) = false := by simpa using hc0
    have hb1 : (c != 0) = true := by simpa using hc0
    have HNE := Aside0.mk hc0
    clear hc0
    go_enter Try.func28, Try.ntmps28
    go_wp2_with (first
      | (go_at_call 74; (with_reducible refine (impl_readOffsets.calls k _ _ l0_0 _ _ l1 _ _ (Kd.C_below HR.out (by first | exact HB1.out | exact Below.refl _ _)) hc0_0 (Kd.C_below HR1.out (by first | exact HB1.out | exact Below.refl _ _)) hc1 HC.out).mono ?_); rintro e w2 (⟨h0, _⟩ | ⟨_, rfl, hb2⟩); (exact absurd h0 HNE.out)))
    go_ret2
    exact ⟨_, rfl, Kd.S_nil _ _ _ _ _, (by first | exact below_step HB1.out hb2 | exact hb2)⟩

end Go.Proofs.Ytjgnlakgojookaa.Q
