/- Written by a program of this session (wip/tools/pp.py) out of the translation, with the kit's printer. -/
import Derived.Test.YtjgnlakgojookaaQ0
import Derived.Test.YtjgnlakgojookaaQGimplnewFrame
import Derived.Test.YtjgnlakgojookaaQGimplframetouch
import Derived.Test.YtjgnlakgojookaaQGimplIsAssembly
import Derived.Test.YtjgnlakgojookaaQGimplframefree
import Derived.Deep.RegionHeld3
import Derived.Deep.RegionWith
namespace Go.Proofs.Ytjgnlakgojookaa.Q
open Go.RowKit Go.Proofs.YtjgnlakgojookaaW.PrintWords Go.Proofs.YtjgnlakgojookaaW.PrintLast Go.Proofs.YtjgnlakgojookaaW.PrintMore
attribute [local go_sem] max2_int min2_int max_two min_two max_three min_three max_four min_four
set_option linter.unusedVariables false
set_option linter.unusedSimpArgs false

/-! ### impl_IsInterlocked: walked by hand -/
def impl_IsInterlocked.f (k : Nat) (l0_0 : List (List S71)) : Option Bool :=
  (impl_IsAssembly.f k l0_0).bind fun a => if a = true then (if l0_0.length ≤ 4 ∧ 1 ≤ l0_0.length then some (((freeG l0_0 (zeroC l0_0.length) (6 * l0_0.length) 0 []).length : Int) == 0) else none) else some false
theorem impl_IsInterlocked.mono : ∀ a0 k, LeO (impl_IsInterlocked.f k a0) (impl_IsInterlocked.f (k + 1) a0) := by
  intro a0 k
  unfold impl_IsInterlocked.f
  exact LeO.bind (impl_IsAssembly.mono _ _) (fun _ => LeO.refl _)
theorem free_zero (w0 w : World) (F M : Nat) (A : Option Addr) (c : Nat) (ps : List (List S71)) (m : Nat) (Al : Option Addr) (cl n : Nat) (hf : Frm w0 w F M A c ps m) (hr : Kd.C k71 w Al n (zeroC n)) (hl : n = ps.length) (hl4 : n ≤ 4) (hm : m < 600000000) :
    Calls Try.prog 71 #[.pointer (some ⟨F, 0, none⟩), .slice Al n cl] w fun e w' => ∃ v : Value, e = .returned v ∧ Kd.R (Kd.int .i64) 2 w' w.heap.size (fun _ => True) v (freeG ps (zeroC n) (6 * ps.length) 0 []) ∧ Frm w0 w' F M A c ps (m + 4000) ∧ Kept w w' (fun k => k = M) := by
  have hz : (zeroC n).length = n := by simp [zeroC]
  have h := impl_frame_free.calls w0 w F M A c ps m Al cl (zeroC n) hf (by rw [hz]; exact hr) (by omega) (by omega) hm
  rw [hz] at h
  exact h
set_option maxRecDepth 100000 in
set_option maxHeartbeats 2000000 in
theorem impl_IsInterlocked.calls (k : Nat) (A0_0 : Option Addr) (c0_0 : Nat) (l0_0 : List (List S71)) (r : Bool) (w : World) (hr0_0 : Kd.C (Kd.slice 71 k71) w A0_0 l0_0.length l0_0) (hc0_0 : l0_0.length ≤ c0_0) (h : impl_IsInterlocked.f k l0_0 = some r) :
    Calls Try.prog 24 #[.agg #[.slice A0_0 l0_0.length c0_0]] w fun e w' => e = .returned (.bool r) ∧ Below w.heap.size w w' := by
  have HR := Aside0.mk hr0_0
  have HB1 := Aside0.mk (below_alloc (Below.refl w.heap.size w) (.cells #[.slice A0_0 l0_0.length c0_0] 29))
  have HBOX := Aside0.mk (heap_alloc_new w (.cells #[.slice A0_0 l0_0.length c0_0] 29 (0, 0)))
  have hu29 := Try.underlying29
  clear hr0_0
  unfold impl_IsInterlocked.f at h
  obtain ⟨a, ha, h⟩ := Option.bind_eq_some_iff.mp h
  have HA := Aside0.mk ha
  clear ha
  cases a with
  | false =>
    rw [if_neg (by decide)] at h
    obtain rfl := Option.some.inj h
    go_enter Try.func24, Try.ntmps24
    go_upto_region 1 with (fail)
    first | fail | go_region_with (first
      | (go_at_call 16; (with_reducible refine (impl_IsAssembly.calls k _ _ l0_0 _ _ (Kd.C_below HR.out (by with_reducible repeat (first | exact HB1.out | apply below_drew1))) hc0_0 HA.out).mono ?_); rintro e w2 ⟨rfl, hb2⟩)
      | fail) | fail
    all_goals (
      go_wp2
      go_ret
      exact ⟨rfl, below_step (by with_reducible repeat (first | exact HB1.out | apply below_drew1)) hb2⟩)
  | true =>
    rw [if_pos rfl] at h
    by_cases hg : l0_0.length ≤ 4 ∧ 1 ≤ l0_0.length
    case neg => rw [if_neg hg] at h; exact absurd h (by simp)
    rw [if_pos hg] at h
    obtain ⟨g4, g1⟩ := hg
    have hr := Option.some.inj h
    have HRR := Aside0.mk hr
    clear h hr
    have hmk := fun W : World => mk_run l0_0.length (by omega) W
    go_enter Try.func24, Try.ntmps24
    go_upto_region 1 with (fail)
    go_region_held3 (fun w' => w'.cell? ⟨w.heap.size, 0, none⟩ = some (.slice A0_0 l0_0.length c0_0))
      (first | go_keep | (go_split_ands; exact pw_cell_below (Frm.bel ‹Frm _ _ _ _ _ _ _ 0›) (by assumption)) | (go_split_ands; exact HFX.out.1.cell HFX.out.2 (by assumption)) | (go_split_ands; exact pw_cell_below ‹Below _ _ _› (by assumption)))
      (first
        | (go_at_call 16; (with_reducible refine (impl_IsAssembly.calls k _ _ l0_0 _ _ (Kd.C_below HR.out (by with_reducible repeat (first | exact HB1.out | apply below_drew1))) hc0_0 HA.out).mono ?_); rintro e w2 ⟨rfl, hb2⟩; have HB2 := Aside0.mk (below_step (by with_reducible repeat (first | exact HB1.out | apply below_drew1)) hb2))
        | (go_at_call 64; refine (impl_newFrame.calls A0_0 c0_0 l0_0 _ (Kd.C_below HR.out (by with_reducible repeat (first | exact HB2.out | apply below_alloc | apply below_drew1 | apply pw_below_drewN))) hc0_0).mono ?_; rintro e w5 ⟨F, M, rfl, hf5⟩; have HF5 := Aside0.mk hf5)
        | (go_at_call 71; refine (free_zero _ _ F M A0_0 c0_0 l0_0 0 _ _ l0_0.length (HF5.out.below (by with_reducible repeat (first | exact Below.refl _ _ | apply below_alloc | apply below_drew1 | apply pw_below_drewN))) (by first | exact mk_C _ (by omega) _ | exact Kd.C_below (mk_C _ (by omega) _) HF5.out.bel | exact Kd.C_below (Kd.C_below (mk_C _ (by omega) _) (below_drew1 (Below.refl _ _))) HF5.out.bel) rfl (by omega) (by omega)).mono ?_; rintro e w6 ⟨v6, rfl, ho6, hf6, hk6⟩; have HFX := Aside0.mk ((fun (W : World) (hk : Kept W w6 (fun k => k = M)) (hb : Below w5.heap.size w5 W) => And.intro (HF5.out.below hb) hk) _ hk6 (by with_reducible repeat (first | exact Below.refl _ _ | apply below_alloc | apply below_drew1 | apply pw_below_drewN))); obtain ⟨Ao, co, eo⟩ := Kd.R_slice ho6; subst eo))
    all_goals (
      rename_i hHeld
      clear hHeld
      go_wp2
      go_ret
      exact ⟨by rw [← HRR.out]; rfl, below_step (by with_reducible repeat (first | exact HB2.out | apply below_alloc | apply below_drew1 | apply pw_below_drewN)) hf6.bel⟩)

end Go.Proofs.Ytjgnlakgojookaa.Q
