/- Written by a program of this session (wip/tools/pp.py) out of the translation, with the kit's printer. -/
import Derived.Test.YtpinaeegopdknaaQ0
import Derived.Test.YtpinaeegopdknaaQGimplPatchOf
import Derived.Test.YtpinaeegopdknaaQ14
import Derived.StillTailTactics
namespace Go.Proofs.Ytpinaeegopdknaa.Q
open Go.RowKit Go.Proofs.YtpinaeegopdknaaW.PrintWords Go.Proofs.YtpinaeegopdknaaW.PrintLast Go.Proofs.YtpinaeegopdknaaW.PrintMore
attribute [local go_sem] max2_int min2_int max_two min_two max_three min_three max_four min_four
set_option linter.unusedVariables false
set_option linter.unusedSimpArgs false

/-! ### spec_l01From: walked by hand -/
def spec_l01From.s (l : List Int) (x : Int) : Int := l.foldl (fun s c => Int.tmod (wrap64 ((wrap64 (s * 47)) + (wrap64 c))) 2147483647) x
def spec_l01From.f (l0 : List Int) : Option (List Int × Int × Int) := some (l0, 0, spec_l01From.s (l0.take 64) 61003)
theorem spec_l01From.s_snoc (l : List Int) (k : Nat) (h : k < l.length) : spec_l01From.s (l.take (k + 1)) 61003 = Int.tmod (wrap64 ((wrap64 (spec_l01From.s (l.take k) 61003 * 47)) + (wrap64 (rd l k)))) 2147483647 := by
  unfold spec_l01From.s
  rw [List.take_succ_eq_append_getElem h, List.foldl_append]
  simp [rd, List.getD_eq_getElem?_getD, List.getElem?_eq_getElem h]
set_option maxHeartbeats 800000 in
set_option maxRecDepth 4000 in
theorem spec_l01From.calls (A0 : Option Addr) (c0 : Nat) (l0 : List Int) (r1 : List Int) (r2 : Int) (r3 : Int) (w0 w : World) (hB : Below w0.heap.size w0 w) (hr0 : Kd.C (Kd.int .u8) w0 A0 l0.length l0) (hc0 : l0.length ≤ c0) (h : spec_l01From.f l0 = some (r1, r2, r3)) :
    Calls Try.prog 26 #[.slice A0 l0.length c0] w fun e w' => ∃ g_ : Nat, e = .returned (.pointer (some ⟨g_, 0, none⟩)) ∧ IsS65 w0 w' g_ r1 r2 r3 ∧ Below w0.heap.size w0 w' ∧ Below w.heap.size w w' := by
  unfold spec_l01From.f at h
  simp only [Option.some.injEq, Prod.mk.injEq] at h
  obtain ⟨rfl, rfl, rfl⟩ := h
  have hlen := hr0.2.1
  have HR := Aside0.mk hr0
  have HB0 := Aside0.mk hB
  clear hr0 hB
  have hu75 := Try.underlying65
  go_enter Try.func26, Try.ntmps26
  go_wp2
  go_loopw [4] (fun i wr => ∃ kk : Nat, kk ≤ l0.length ∧ kk ≤ 64 ∧ i = .int .i64 kk ∧ Aside0 (wr.heap[w.heap.size]? = some (.cells #[.slice A0 l0.length c0, .int .i64 0, .int .i64 (spec_l01From.s (l0.take kk) 61003)] 65 (0, 0))) ∧ Aside0 (Below w.heap.size w wr)) (fun i _ => 64 - (intOf i).toNat)
  case atStart => exact ⟨0, Nat.zero_le _, Nat.zero_le _, rfl, ⟨heap_alloc_new w _⟩, ⟨below_alloc (Below.refl _ _) _⟩⟩
  case round =>
    obtain ⟨kk, hk, hk2, rfl, HC, HB⟩ := hrel
    by_cases hlt : kk < l0.length
    · by_cases hlt2 : kk < 64
      · obtain ⟨ad, e, h0⟩ := Kd.at_int (Kd.C_below HR.out (HB0.out.trans (HB.out.mono HB0.out.size))) (kk : Int) (by omega) (by omega)
        rw [Int.toNat_natCast] at h0
        subst e
        have hc0' := (blk_cell HC.out 0).trans rfl
        have hc1' := (blk_cell HC.out 1).trans rfl
        have hc2' := (blk_cell HC.out 2).trans rfl
        have hf2' := blk_frozen HC.out 2
        have hb64 : decide ((kk : Int) < 64) = true := decide_eq_true (by omega)
        go_wp2
        go_still_tail 15, (by kernel_rfl)
        change wpList _ _ _ _ _ wr.drew
        go_wp2
        go_roundw
        case rel =>
          refine ⟨kk + 1, by omega, by omega, by go_num, ⟨?_⟩, ⟨?_⟩⟩
          · (with_reducible repeat (first | refine blk_drewN ?_ _ | refine blk_drew ?_))
            rw [spec_l01From.s_snoc l0 kk hlt]
            refine blk_put (cs := #[.slice (some ad) l0.length c0, .int .i64 0, .int .i64 (spec_l01From.s (l0.take kk) 61003)]) ?_ 2 _ rfl
            (with_reducible repeat (first | refine blk_drewN ?_ _ | refine blk_drew ?_))
            exact HC.out
          · repeat (first | (with_reducible first | exact HB.out | apply below_alloc | apply pw_below_drewN | apply below_drew1 | refine below_set ?_ (Nat.le_refl _)) | exact HB.out)
        case measure => simp [intOf]; omega
      · have e : kk = 64 := by omega
        have hb64 : decide ((kk : Int) < 64) = false := decide_eq_false (by omega)
        have HE := Aside0.mk e
        clear e
        go_wp2
        go_ret
        refine ⟨_, rfl, ⟨A0, c0, ?_, HB0.out.size, HR.out⟩, HB0.out.trans (HB.out.mono HB0.out.size), HB.out⟩
        have := HC.out
        rw [HE.out] at this
        exact this
    · have e : l0.take kk = l0.take 64 := by rw [List.take_of_length_le (by omega), List.take_of_length_le (by omega)]
      have HE := Aside0.mk e
      clear e
      go_wp2
      go_ret
      refine ⟨_, rfl, ⟨A0, c0, ?_, HB0.out.size, HR.out⟩, HB0.out.trans (HB.out.mono HB0.out.size), HB.out⟩
      have := HC.out
      rw [HE.out] at this
      exact this

end Go.Proofs.Ytpinaeegopdknaa.Q
