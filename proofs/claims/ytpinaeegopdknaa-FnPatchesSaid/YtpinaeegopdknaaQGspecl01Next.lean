/- Written by a program of this session (wip/tools/pp.py) out of the translation, with the kit's printer. -/
import Derived.Test.YtpinaeegopdknaaQ0
import Derived.Test.YtpinaeegopdknaaQ14
namespace Go.Proofs.Ytpinaeegopdknaa.Q
open Go.RowKit Go.Proofs.YtpinaeegopdknaaW.PrintWords Go.Proofs.YtpinaeegopdknaaW.PrintLast Go.Proofs.YtpinaeegopdknaaW.PrintMore
attribute [local go_sem] max2_int min2_int max_two min_two max_three min_three max_four min_four
set_option linter.unusedVariables false
set_option linter.unusedSimpArgs false

/-! ### spec_l01Next: walked by hand -/
def spec_l01Next.f (s0_0 : List Int) (s0_1 : Int) (s0_2 : Int) (a1 : Int) : Option (Int × Int × Int) :=
  if a1 ≤ 1 then some (0, s0_1, s0_2) else
    if s0_1 < (s0_0.length : Int) then
      if 0 ≤ s0_1 then
        if a1 ≤ 256 ∧ (s0_1 + 1) % 2 = 0 then some (Int.tmod (wrap64 (rd s0_0 s0_1)) a1, s0_1 + 1, Int.tmod (wrap64 (wrap64 (s0_2 * 48271) + 29)) 2147483647)
        else some (Int.tmod (wrap64 (wrap64 (Int.tdiv (Int.tmod (wrap64 (wrap64 (s0_2 * 48271) + 29)) 2147483647) 31) + wrap64 (rd s0_0 s0_1))) a1, s0_1 + 1, Int.tmod (wrap64 (wrap64 (s0_2 * 48271) + 29)) 2147483647)
      else none
    else some (Int.tmod (wrap64 (Int.tdiv (Int.tmod (wrap64 (wrap64 (s0_2 * 48271) + 29)) 2147483647) 31)) a1, s0_1, Int.tmod (wrap64 (wrap64 (s0_2 * 48271) + 29)) 2147483647)
set_option maxHeartbeats 800000 in
theorem spec_l01Next.calls (g : Nat) (s0_0 : List Int) (s0_1 : Int) (s0_2 : Int) (a1 : Int) (r1 : Int) (r2 : Int) (r3 : Int) (w0 w : World) (hI : IsS65 w0 w g s0_0 s0_1 s0_2) (hB : Below w0.heap.size w0 w) (h : spec_l01Next.f s0_0 s0_1 s0_2 a1 = some (r1, r2, r3)) :
    Calls Try.prog 28 #[.pointer (some ⟨g, 0, none⟩), .int .i64 a1] w fun e w' => e = .returned (.int .i64 r1) ∧ IsS65 w0 w' g s0_0 r2 r3 ∧ Below w0.heap.size w0 w' ∧ KeepBut w w' g none := by
  obtain ⟨A, c, hb, hg, hC⟩ := hI
  have hlen := hC.2.1
  have BK := Aside0.mk hb
  have HC := Aside0.mk hC
  have HB := Aside0.mk hB
  have c0 := (blk_cell hb 0).trans rfl
  have c1 := (blk_cell hb 1).trans rfl
  have c2 := (blk_cell hb 2).trans rfl
  have f1 := blk_frozen hb 1
  have f2 := blk_frozen hb 2
  clear hb hC hB
  unfold spec_l01Next.f at h
  by_cases h1 : a1 ≤ 1
  · rw [if_pos h1] at h
    simp only [Option.some.injEq, Prod.mk.injEq] at h
    obtain ⟨rfl, rfl, rfl⟩ := h
    go_enter Try.func28, Try.ntmps28
    go_wp2
    go_ret
    exact ⟨rfl, ⟨A, c, BK.out, hg, HC.out⟩, HB.out, KeepBut.refl _ _ _⟩
  · rw [if_neg h1] at h
    have hz : ¬ a1 = 0 := by omega
    by_cases h2 : s0_1 < (s0_0.length : Int)
    · rw [if_pos h2] at h
      by_cases h3 : 0 ≤ s0_1
      · rw [if_pos h3] at h
        obtain ⟨i, rfl⟩ : ∃ i : Nat, s0_1 = (i : Int) := ⟨s0_1.toNat, by omega⟩
        obtain ⟨ad, e, hx⟩ := Kd.at_int (Kd.C_below HC.out HB.out) (i : Int) (by omega) (by omega)
        obtain ⟨ad2, e2, hx0⟩ := Kd.at_int HC.out (i : Int) (by omega) (by omega)
        subst e
        have ee : ad = ad2 := by injection e2
        subst ee
        have hlt := World.block_lt_of_cell? w0 _ hx0
        rw [Int.toNat_natCast] at hx hlt
        have hne : (ad.add i).block ≠ g := by omega
        have hne' := hne.symm
        clear e2 hx0
        have hx2 := (cell_far (p := ⟨g, 2, none⟩) hne (.int .i64 (Int.tmod (wrap64 (wrap64 (s0_2 * 48271) + 29)) 2147483647))).trans hx
        have hx3 := fun n : Nat => (show (((w.setCell ⟨g, 2, none⟩ (.int .i64 (Int.tmod (wrap64 (wrap64 (s0_2 * 48271) + 29)) 2147483647))).drewN n).setCell ⟨g, 1, none⟩ (.int .i64 ((i : Int) + 1))).cell? (ad.add i) = some (.int .u8 (rd s0_0 (i : Int))) from (cell_far (p := ⟨g, 1, none⟩) hne (.int .i64 ((i : Int) + 1))).trans hx2)
        have fin : ∀ m n : Nat, IsS65 w0 ((((w.setCell ⟨g, 2, none⟩ (.int .i64 (Int.tmod (wrap64 (wrap64 (s0_2 * 48271) + 29)) 2147483647))).drewN m).setCell ⟨g, 1, none⟩ (.int .i64 ((i : Int) + 1))).drewN n) g s0_0 ((i : Int) + 1) (Int.tmod (wrap64 (wrap64 (s0_2 * 48271) + 29)) 2147483647) ∧ Below w0.heap.size w0 ((((w.setCell ⟨g, 2, none⟩ (.int .i64 (Int.tmod (wrap64 (wrap64 (s0_2 * 48271) + 29)) 2147483647))).drewN m).setCell ⟨g, 1, none⟩ (.int .i64 ((i : Int) + 1))).drewN n) ∧ KeepBut w ((((w.setCell ⟨g, 2, none⟩ (.int .i64 (Int.tmod (wrap64 (wrap64 (s0_2 * 48271) + 29)) 2147483647))).drewN m).setCell ⟨g, 1, none⟩ (.int .i64 ((i : Int) + 1))).drewN n) g none := fun m n =>
          ⟨⟨_, c, blk_drewN (blk_put (cs := #[.slice (some ad) s0_0.length c, .int .i64 (i : Int), .int .i64 (Int.tmod (wrap64 (wrap64 (s0_2 * 48271) + 29)) 2147483647)]) (blk_drewN (blk_put (cs := #[.slice (some ad) s0_0.length c, .int .i64 (i : Int), .int .i64 s0_2]) BK.out 2 _ rfl) _) 1 _ rfl) _, hg, HC.out⟩, pw_below_drewN (below_set (pw_below_drewN (below_set HB.out hg) _) hg) _, keep_drewN (KeepBut.set_ (keep_drewN (KeepBut.set_ (KeepBut.refl _ _ _) _ _) _) _ _) _⟩
        have FIN := Aside0.mk fin
        clear fin
        have HX := Aside0.mk hx
        clear hx
        by_cases h4 : a1 ≤ 256 ∧ ((i : Int) + 1) % 2 = 0
        · rw [if_pos h4] at h
          simp only [Option.some.injEq, Prod.mk.injEq] at h
          obtain ⟨rfl, rfl, rfl⟩ := h
          obtain ⟨h5, h6⟩ := h4
          have h7 : (((i : Int) + 1) % 2 == 0) = true := by simpa using h6
          clear h6
          go_enter Try.func28, Try.ntmps28
          go_wp2
          go_quiet (fail)
          go_wp2
          go_quiet (fail)
          go_wp2
          go_quiet (fail)
          go_wp2
          go_ret
          exact ⟨rfl, FIN.out _ _⟩
        · rw [if_neg h4] at h
          simp only [Option.some.injEq, Prod.mk.injEq] at h
          obtain ⟨rfl, rfl, rfl⟩ := h
          by_cases h5 : a1 ≤ 256
          · have h7 : (((i : Int) + 1) % 2 == 0) = false := by
              have : ¬ ((i : Int) + 1) % 2 = 0 := fun e => h4 ⟨h5, e⟩
              simpa using this
            clear h4
            go_enter Try.func28, Try.ntmps28
            go_wp2
            go_quiet (fail)
            go_wp2
            go_quiet (fail)
            go_wp2
            go_ret
            exact ⟨rfl, FIN.out _ 0⟩
          · clear h4
            go_enter Try.func28, Try.ntmps28
            go_wp2
            go_quiet (fail)
            go_wp2
            go_quiet (fail)
            go_wp2
            go_ret
            exact ⟨rfl, FIN.out _ 0⟩
      · rw [if_neg h3] at h
        exact absurd h (by simp)
    · rw [if_neg h2] at h
      simp only [Option.some.injEq, Prod.mk.injEq] at h
      obtain ⟨rfl, rfl, rfl⟩ := h
      go_enter Try.func28, Try.ntmps28
      go_wp2
      go_quiet (fail)
      go_wp2
      go_ret
      exact ⟨rfl, ⟨A, c, blk_drewN (blk_put (cs := #[.slice A s0_0.length c, .int .i64 s0_1, .int .i64 s0_2]) BK.out 2 _ rfl) _, hg, HC.out⟩, pw_below_drewN (below_set HB.out hg) _, keep_drewN (KeepBut.set_ (KeepBut.refl _ _ _) _ _) _⟩

end Go.Proofs.Ytpinaeegopdknaa.Q
