/- Written by a program of this session (wip/tools/pp.py) out of the translation, with the kit's printer. -/
import Derived.Test.YtjgnlakgojookaaQ0
import Derived.Test.YtjgnlakgojookaaQGimplnewFrame
import Derived.Test.YtjgnlakgojookaaQGimplIsAssembly
import Derived.Test.YtjgnlakgojookaaQGimplframefollow
namespace Go.Proofs.Ytjgnlakgojookaa.Q
open Go.RowKit Go.Proofs.YtjgnlakgojookaaW.PrintWords Go.Proofs.YtjgnlakgojookaaW.PrintLast Go.Proofs.YtjgnlakgojookaaW.PrintMore
attribute [local go_sem] max2_int min2_int max_two min_two max_three min_three max_four min_four
set_option linter.unusedVariables false
set_option linter.unusedSimpArgs false

/-! ### impl_FollowWay: walked by hand -/
def impl_FollowWay.f (k : Nat) (l0_0 : List (List S71)) (l1 : List Int) : Option (List S71 × Int) :=
  (impl_IsAssembly.f k l0_0).bind fun a => if a = true then (if (l0_0.length ≤ 4 ∧ 1 ≤ l0_0.length) ∧ l1.length ≤ 1048576 ∧ l1.all (fun m => decide (m ≤ 9223372036854775807)) = true then some ((followG l0_0 l1 (List.replicate l0_0.length z71)).getD [], if (followG l0_0 l1 (List.replicate l0_0.length z71)).isSome = true then 0 else 5) else none) else some ([], 1)
theorem impl_FollowWay.mono : ∀ a0 a1 k, LeO (impl_FollowWay.f k a0 a1) (impl_FollowWay.f (k + 1) a0 a1) := by
  intro a0 a1 k
  unfold impl_FollowWay.f
  exact LeO.bind (impl_IsAssembly.mono _ _) (fun _ => LeO.refl _)
set_option maxRecDepth 100000 in
set_option maxHeartbeats 2000000 in
theorem impl_FollowWay.calls (k : Nat) (A0_0 : Option Addr) (c0_0 : Nat) (l0_0 : List (List S71)) (A1 : Option Addr) (c1 : Nat) (l1 : List Int) (r1 : List S71) (r2 : Int) (w : World) (hr0_0 : Kd.C (Kd.slice 71 k71) w A0_0 l0_0.length l0_0) (hc0_0 : l0_0.length ≤ c0_0) (hr1 : Kd.C (Kd.int .i64) w A1 l1.length l1) (hc1 : l1.length ≤ c1) (h : impl_FollowWay.f k l0_0 l1 = some (r1, r2)) :
    Calls Try.prog 44 #[.agg #[.slice A0_0 l0_0.length c0_0], .slice A1 l1.length c1] w fun e w' => ∃ v0_ : Value, e = .returned (.tuple #[v0_, .int .i64 r2]) ∧ Kd.R k71 71 w' w.heap.size (fun _ => True) v0_ r1 ∧ Below w.heap.size w w' := by
  have HR := Aside0.mk hr0_0
  have HR1 := Aside0.mk hr1
  have HB1 := Aside0.mk (below_alloc (Below.refl w.heap.size w) (.cells #[.slice A0_0 l0_0.length c0_0] 29))
  have HBOX := Aside0.mk (heap_alloc_new w (.cells #[.slice A0_0 l0_0.length c0_0] 29 (0, 0)))
  have hu29 := Try.underlying29
  clear hr0_0 hr1
  unfold impl_FollowWay.f at h
  obtain ⟨a, ha, h⟩ := Option.bind_eq_some_iff.mp h
  have HA := Aside0.mk ha
  clear ha
  cases a with
  | false =>
    rw [if_neg (by decide)] at h
    simp only [Option.some.injEq, Prod.mk.injEq] at h
    obtain ⟨rfl, rfl⟩ := h
    go_enter Try.func44, Try.ntmps44
    go_wp2_with (go_at_call 16; (with_reducible refine (impl_IsAssembly.calls k _ _ l0_0 _ _ (Kd.C_below HR.out HB1.out) hc0_0 HA.out).mono ?_); rintro e w2 ⟨rfl, hb2⟩)
    go_ret2
    exact ⟨_, rfl, Kd.R_nil _ _ _ _ _, below_step HB1.out hb2⟩
  | true =>
    rw [if_pos rfl] at h
    by_cases hg : (l0_0.length ≤ 4 ∧ 1 ≤ l0_0.length) ∧ l1.length ≤ 1048576 ∧ l1.all (fun m => decide (m ≤ 9223372036854775807)) = true
    case neg => rw [if_neg hg] at h; exact absurd h (by simp)
    rw [if_pos hg] at h
    obtain ⟨⟨g4, g1⟩, gl, ga⟩ := hg
    simp only [Option.some.injEq, Prod.mk.injEq] at h
    obtain ⟨hq1, hq2⟩ := h
    have gm : ∀ m ∈ l1, m ≤ 9223372036854775807 := fun m hm => of_decide_eq_true (List.all_eq_true.1 ga m hm)
    have HO := Aside0.mk (fun (w0 w1 : World) (F M : Nat) (hf : Frm w0 w1 F M A0_0 c0_0 l0_0 0) (hb : Below w.heap.size w w1) => impl_frame_follow.calls w0 w1 F M A0_0 c0_0 l0_0 0 A1 c1 l1 hf (Kd.C_below HR1.out hb) gl gm g1 g4 (by omega))
    have HQ := Aside0.mk hq1
    clear ga gm hq1
    cases ho : (followG l0_0 l1 (List.replicate l0_0.length z71)).isSome with
    | false =>
      rw [ho] at HO hq2
      rw [if_neg (by decide)] at hq2
      subst hq2
      have hn := Option.isSome_eq_false_iff.mp ho
      go_enter Try.func44, Try.ntmps44
      go_wp2_with (first
        | (go_at_call 16; (with_reducible refine (impl_IsAssembly.calls k _ _ l0_0 _ _ (Kd.C_below HR.out HB1.out) hc0_0 HA.out).mono ?_); rintro e w2 ⟨rfl, hb2⟩; have HB2 := Aside0.mk (below_step HB1.out hb2); have HX2 := Aside0.mk (blk_below HBOX.out hb2); have x0 := (blk_cell HX2.out 0).trans rfl; clear hb2)
        | (go_at_call 64; refine (impl_newFrame.calls A0_0 c0_0 l0_0 _ (Kd.C_below HR.out HB2.out) hc0_0).mono ?_; rintro e w3 ⟨F, M, rfl, hf3⟩; have HF3 := Aside0.mk hf3; clear hf3)
        | (go_at_call 82; refine (HO.out _ _ F M HF3.out (below_step HB2.out HF3.out.bel)).mono ?_; rintro e w4 ⟨v4, rfl, ho4, hf4, hk4⟩))
      go_ret2
      exact ⟨_, rfl, by rw [← HQ.out, Option.isNone_iff_eq_none.mp hn]; exact Kd.R_nil _ _ _ _ _, below_step HB2.out hf4.bel⟩
    | true =>
      rw [ho] at HO hq2
      rw [if_pos rfl] at hq2
      subst hq2
      go_enter Try.func44, Try.ntmps44
      go_wp2_with (first
        | (go_at_call 16; (with_reducible refine (impl_IsAssembly.calls k _ _ l0_0 _ _ (Kd.C_below HR.out HB1.out) hc0_0 HA.out).mono ?_); rintro e w2 ⟨rfl, hb2⟩; have HB2 := Aside0.mk (below_step HB1.out hb2); have HX2 := Aside0.mk (blk_below HBOX.out hb2); have x0 := (blk_cell HX2.out 0).trans rfl; clear hb2)
        | (go_at_call 64; refine (impl_newFrame.calls A0_0 c0_0 l0_0 _ (Kd.C_below HR.out HB2.out) hc0_0).mono ?_; rintro e w3 ⟨F, M, rfl, hf3⟩; have HF3 := Aside0.mk hf3; clear hf3)
        | (go_at_call 82; refine (HO.out _ _ F M HF3.out (below_step HB2.out HF3.out.bel)).mono ?_; rintro e w4 ⟨v4, rfl, ho4, hf4, hk4⟩))
      go_ret2
      exact ⟨_, rfl, HQ.out ▸ Kd.R_lower ho4 (below_step HB2.out HF3.out.bel).size, below_step HB2.out hf4.bel⟩

end Go.Proofs.Ytjgnlakgojookaa.Q
