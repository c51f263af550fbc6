/- Written by a program of this session (wip/tools/pp.py) out of the translation, with the kit's printer. -/
import Derived.Test.YtjgnlakgojookaaQ0
import Derived.Test.YtjgnlakgojookaaQGimplnewFrame
import Derived.Test.YtjgnlakgojookaaQGimplIsAssembly
import Derived.Test.YtjgnlakgojookaaQGimplframeareOffsets
namespace Go.Proofs.Ytjgnlakgojookaa.Q
open Go.RowKit Go.Proofs.YtjgnlakgojookaaW.PrintWords Go.Proofs.YtjgnlakgojookaaW.PrintLast Go.Proofs.YtjgnlakgojookaaW.PrintMore
attribute [local go_sem] max2_int min2_int max_two min_two max_three min_three max_four min_four
set_option linter.unusedVariables false
set_option linter.unusedSimpArgs false

/-! ### impl_readOffsets: walked by hand -/
def impl_readOffsets.f (k : Nat) (l0_0 : List (List S71)) (l1 : List S71) : Option Int :=
  (impl_IsAssembly.f k l0_0).bind fun a => if a = true then (if l0_0.length ≤ 4 ∧ 1 ≤ l0_0.length then some (if offsC l0_0 l1 = true then 0 else 2) else none) else some 1
theorem impl_readOffsets.mono : ∀ a0 a1 k, LeO (impl_readOffsets.f k a0 a1) (impl_readOffsets.f (k + 1) a0 a1) := by
  intro a0 a1 k
  unfold impl_readOffsets.f
  exact LeO.bind (impl_IsAssembly.mono _ _) (fun _ => LeO.refl _)
/-- The frame, told from an elder world on. -/
theorem Frm.rebase {w0 w1 w : World} {F M : Nat} {A : Option Addr} {c : Nat} {ps : List (List S71)} {n : Nat} (h : Frm w1 w F M A c ps n) (hb : Below w0.heap.size w0 w1) (hC : Kd.C (Kd.slice 71 k71) w0 A ps.length ps) : Frm w0 w F M A c ps n :=
  ⟨below_step hb h.bel, h.hF, h.hM, Nat.le_trans hb.size h.lo, hC, h.hc⟩
/-- What readOffsets returns, by its code. -/
def readPost (w : World) (A : Option Addr) (c : Nat) (ps : List (List S71)) (r : Int) (e : Ending) (w' : World) : Prop :=
  (r = 0 ∧ 1 ≤ ps.length ∧ ps.length ≤ 4 ∧ ∃ F M : Nat, e = .returned (.tuple #[.pointer (some ⟨F, 0, none⟩), .int .i64 0]) ∧ Frm w w' F M A c ps 16) ∨ (r ≠ 0 ∧ e = .returned (.tuple #[.pointer none, .int .i64 r]) ∧ Below w.heap.size w w')
set_option maxRecDepth 100000 in
set_option maxHeartbeats 1000000 in
theorem impl_readOffsets.calls (k : Nat) (A0_0 : Option Addr) (c0_0 : Nat) (l0_0 : List (List S71)) (A1 : Option Addr) (c1 : Nat) (l1 : List S71) (r : Int) (w : World) (hr0_0 : Kd.C (Kd.slice 71 k71) w A0_0 l0_0.length l0_0) (hc0_0 : l0_0.length ≤ c0_0) (hr1 : Kd.C k71 w A1 l1.length l1) (hc1 : l1.length ≤ c1) (h : impl_readOffsets.f k l0_0 l1 = some r) :
    Calls Try.prog 74 #[.agg #[.slice A0_0 l0_0.length c0_0], .slice A1 l1.length c1] w (readPost w A0_0 c0_0 l0_0 r) := by
  have HR := Aside0.mk hr0_0
  have HR1 := Aside0.mk hr1
  have HB1 := Aside0.mk (below_alloc (Below.refl w.heap.size w) (.cells #[.slice A0_0 l0_0.length c0_0] 29))
  have HBOX := Aside0.mk (heap_alloc_new w (.cells #[.slice A0_0 l0_0.length c0_0] 29 (0, 0)))
  have hu29 := Try.underlying29
  clear hr0_0 hr1
  unfold impl_readOffsets.f at h
  obtain ⟨a, ha, h⟩ := Option.bind_eq_some_iff.mp h
  have HA := Aside0.mk ha
  clear ha
  cases a with
  | false =>
    rw [if_neg (by decide)] at h
    obtain rfl := Option.some.inj h
    go_enter Try.func74, Try.ntmps74
    go_wp2_with (go_at_call 16; (with_reducible refine (impl_IsAssembly.calls k _ _ l0_0 _ _ (Kd.C_below HR.out HB1.out) hc0_0 HA.out).mono ?_); rintro e w2 ⟨rfl, hb2⟩)
    go_ret2
    exact .inr ⟨by decide, rfl, below_step HB1.out hb2⟩
  | true =>
    rw [if_pos rfl] at h
    by_cases hg : l0_0.length ≤ 4 ∧ 1 ≤ l0_0.length
    case neg => rw [if_neg hg] at h; exact absurd h (by simp)
    rw [if_pos hg] at h
    obtain ⟨g4, g1⟩ := hg
    have HO := Aside0.mk (fun (w0 w1 : World) (F M : Nat) (hf : Frm w0 w1 F M A0_0 c0_0 l0_0 0) (hb : Below w.heap.size w w1) => impl_frame_areOffsets.calls w0 w1 F M A0_0 c0_0 l0_0 0 A1 c1 l1 hf (Kd.C_below HR1.out hb) hc1 g4 g1 (by omega))
    cases ho : offsC l0_0 l1 with
    | false =>
      rw [ho] at h HO
      rw [if_neg (by decide)] at h
      obtain rfl := Option.some.inj h
      go_enter Try.func74, Try.ntmps74
      go_wp2_with (first
        | (go_at_call 16; (with_reducible refine (impl_IsAssembly.calls k _ _ l0_0 _ _ (Kd.C_below HR.out HB1.out) hc0_0 HA.out).mono ?_); rintro e w2 ⟨rfl, hb2⟩; have HB2 := Aside0.mk (below_step HB1.out hb2); have HX2 := Aside0.mk (blk_below HBOX.out hb2); have x0 := (blk_cell HX2.out 0).trans rfl; clear hb2)
        | (go_at_call 64; refine (impl_newFrame.calls A0_0 c0_0 l0_0 _ (Kd.C_below HR.out HB2.out) hc0_0).mono ?_; rintro e w3 ⟨F, M, rfl, hf3⟩; have HF3 := Aside0.mk hf3; clear hf3)
        | (go_at_call 68; refine (HO.out _ _ F M HF3.out (below_step HB2.out HF3.out.bel)).mono ?_; rintro e w4 ⟨rfl, hf4, hk4⟩))
      go_ret2
      exact .inr ⟨by decide, rfl, below_step HB2.out hf4.bel⟩
    | true =>
      rw [ho] at h HO
      rw [if_pos rfl] at h
      obtain rfl := Option.some.inj h
      go_enter Try.func74, Try.ntmps74
      go_wp2_with (first
        | (go_at_call 16; (with_reducible refine (impl_IsAssembly.calls k _ _ l0_0 _ _ (Kd.C_below HR.out HB1.out) hc0_0 HA.out).mono ?_); rintro e w2 ⟨rfl, hb2⟩; have HB2 := Aside0.mk (below_step HB1.out hb2); have HX2 := Aside0.mk (blk_below HBOX.out hb2); have x0 := (blk_cell HX2.out 0).trans rfl; clear hb2)
        | (go_at_call 64; refine (impl_newFrame.calls A0_0 c0_0 l0_0 _ (Kd.C_below HR.out HB2.out) hc0_0).mono ?_; rintro e w3 ⟨F, M, rfl, hf3⟩; have HF3 := Aside0.mk hf3; clear hf3)
        | (go_at_call 68; refine (HO.out _ _ F M HF3.out (below_step HB2.out HF3.out.bel)).mono ?_; rintro e w4 ⟨rfl, hf4, hk4⟩))
      go_ret2
      exact .inl ⟨rfl, g1, g4, F, M, rfl, hf4.rebase HB2.out HR.out⟩

end Go.Proofs.Ytjgnlakgojookaa.Q
