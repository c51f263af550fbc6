/- Written by a program of this session (wip/tools/pp.py) out of the translation, with the kit's printer. -/
import Derived.Test.YtpinaeegopdknaaQ0
import Derived.Test.YtpinaeegopdknaaQ11
import Derived.Test.YtpinaeegopdknaaVMap
namespace Go.Proofs.Ytpinaeegopdknaa.Q
open Go.RowKit Go.Proofs.YtpinaeegopdknaaW.PrintWords Go.Proofs.YtpinaeegopdknaaW.PrintLast Go.Proofs.YtpinaeegopdknaaW.PrintMore
attribute [local go_sem] max2_int min2_int max_two min_two max_three min_three max_four min_four
set_option linter.unusedVariables false
set_option linter.unusedSimpArgs false

/-! ### impl_Lattice_tiles: walked by hand -/
def cellV (p : Int × Int) : Value := .agg #[.int .i64 p.1, .int .i64 p.2]
theorem cellV_inj (p q : Int × Int) (h : cellV p = cellV q) : p = q := by
  unfold cellV at h
  simp at h
  exact Prod.ext h.1 h.2
def rng (x : Int) : Bool := decide (-9223372036854775808 ≤ x) && decide (x ≤ 9223372036854775807)
theorem rng_wf {x : Int} (h : rng x = true) : (Lit.int .i64 x).wf = true := by
  show (decide ((-9223372036854775808 : Int) ≤ x) && decide (x ≤ (9223372036854775807 : Int))) = true
  exact h
theorem lawCell : Maps.Keyed Try.prog 43 := Maps.Keyed.of_law (deep_law_laid (by kernel_rfl : laidOutB Try.prog = true) (m := 2) (by omega) (of_decide_eq_true (by kernel_rfl)) (by kernel_rfl) (by kernel_rfl))
theorem cell_key {p : Int × Int} (h0 : rng p.1 = true) (h1 : rng p.2 = true) : KOk Try.prog 43 cellV p :=
  key_pair Try.underlying43 Try.underlying2 rfl rfl rfl rfl (by decide) (by decide) (by kernel_rfl) (by kernel_rfl) (by kernel_rfl) (of_decide_eq_true (by kernel_rfl)) (rng_wf h0) (rng_wf h1)
def impl_Lattice_tiles.l (a0_0 a0_1 a0_2 : Int) : List S43 → List ((Int × Int) × Bool) → Option (List ((Int × Int) × Bool))
  | [], L => some L
  | c :: r, L => (impl_Lattice_modulo.f a0_0 a0_1 a0_2 c.f0 c.f1).bind fun p => if (rng p.1 && rng p.2) = true then impl_Lattice_tiles.l a0_0 a0_1 a0_2 r ((p, true) :: L) else none
def impl_Lattice_tiles.f (a0_0 : Int) (a0_1 : Int) (a0_2 : Int) (l1 : List S43) : Option Bool :=
  (impl_Lattice_tiles.l a0_0 a0_1 a0_2 l1 []).bind fun L => some (if wrap64 (a0_0 * a0_2) = (l1.length : Int) then decide ((mlen L : Int) = (l1.length : Int)) else false)
set_option maxHeartbeats 800000 in
theorem impl_Lattice_tiles.calls (a0_0 : Int) (a0_1 : Int) (a0_2 : Int) (A1 : Option Addr) (c1 : Nat) (l1 : List S43) (r : Bool) (w : World) (hr1 : Kd.C k43 w A1 l1.length l1) (hc1 : l1.length ≤ c1) (h : impl_Lattice_tiles.f a0_0 a0_1 a0_2 l1 = some r) :
    Calls Try.prog 23 #[.agg #[.int .i64 a0_0, .int .i64 a0_1, .int .i64 a0_2], .slice A1 l1.length c1] w fun e w' => e = .returned (.bool r) ∧ Below w.heap.size w w' := by
  obtain ⟨Lf, hl, hr⟩ := Option.bind_eq_some_iff.mp h
  clear h
  have hlen := hr1.2.1
  have HL := Aside0.mk hl
  have HR := Aside0.mk hr1
  have HF := Aside0.mk hr
  clear hl hr hr1
  have hmm := @run_makeMap Try.prog
  have hu28 := Try.underlying30
  have hu33 := Try.underlying43
  go_enter Try.func23, Try.ntmps23
  go_wp2
  go_loopw [11] (fun i wr => ∃ (kk : Nat) (L : List ((Int × Int) × Bool)), kk ≤ l1.length ∧ i = .int .i64 kk ∧ Aside0 (impl_Lattice_tiles.l a0_0 a0_1 a0_2 (l1.drop kk) L = some Lf) ∧ Aside0 (L.length = kk) ∧ Aside0 (VM Try.prog 43 cellV Value.bool wr (w.heap.size + 1) L) ∧ Aside0 (wr.heap[w.heap.size]? = some (.cells #[.int .i64 a0_0, .int .i64 a0_1, .int .i64 a0_2] 30 (0, 0))) ∧ Aside0 (Below w.heap.size w wr)) (fun i _ => l1.length - (intOf i).toNat)
  case atStart => exact ⟨0, [], Nat.zero_le _, rfl, HL, ⟨rfl⟩, ⟨by simpa using VM.made (P := Try.prog) (k := 43) (kv := cellV) (ev := Value.bool) (w.alloc (.cells #[.int .i64 a0_0, .int .i64 a0_1, .int .i64 a0_2] 30))⟩, ⟨blk_alloc (heap_alloc_new w _) _⟩, ⟨by repeat (first | exact Below.refl _ _ | apply below_alloc | apply pw_below_drewN | refine below_set ?_ (by omega))⟩⟩
  case round =>
    obtain ⟨kk, L, hk, rfl, HG, HN, HV, HB0, HB⟩ := hrel
    by_cases hlt : kk < l1.length
    · obtain ⟨ad, e, h0, h1⟩ := at_T43 (Kd.C_below HR.out HB.out) (kk : Int) (by omega) (by omega)
      have hd : l1.drop kk = rd_T43 l1 kk :: l1.drop (kk + 1) := by
        rw [List.drop_eq_getElem_cons hlt]
        simp [rd_T43, List.getD_eq_getElem?_getD, List.getElem?_eq_getElem hlt]
      have HG2 := HG.out
      rw [hd] at HG2
      clear hd
      unfold impl_Lattice_tiles.l at HG2
      obtain ⟨p, hp, HG3⟩ := Option.bind_eq_some_iff.mp HG2
      clear HG2
      split at HG3
      case isFalse => exact absurd HG3 (by simp)
      rename_i hrg
      have HRG := Aside0.mk hrg
      have HP := Aside0.mk hp
      have HG4 := Aside0.mk HG3
      clear hrg hp HG3
      have HB1 := Aside0.mk (blk_alloc HB0.out (.cells #[.int .i64 (rd_T43 l1 kk).f0, .int .i64 (rd_T43 l1 kk).f1] 43))
      have hc0 := (blk_cell HB1.out 0).trans rfl
      have hc1' := (blk_cell HB1.out 1).trans rfl
      have hc2 := (blk_cell HB1.out 2).trans rfl
      subst e
      rw [Int.toNat_natCast] at h0 h1
      obtain ⟨p0, p1⟩ := p
      go_wp2_with (first
        | (go_at_call 24; (with_reducible refine (impl_Lattice_modulo.calls _ _ _ _ _ _ _ _ HP.out).mono ?_); rintro e w1 ⟨rfl, hb1⟩; have HV1 := Aside0.mk (VM.below (VM.alloc HV.out _) hb1))
        | (at_mapUpdate; refine wpList_vm_put rfl _ _ _ 63 rfl 4 lawCell Try.underlying63 HV1.out rfl (by rw [HN.out]; unfold maxLen; omega) (p0, p1) true rfl rfl (cell_key (p := (p0, p1)) (Bool.and_eq_true_iff.mp HRG.out).1 (Bool.and_eq_true_iff.mp HRG.out).2) ?_; intro w2 hv2 hg2; have HV2 := Aside0.mk hv2; clear hv2))
      have HB2 := Aside0.mk (blk_grown (blk_below HB1.out hb1) hg2 (by simp))
      have HBB := Aside0.mk (((below_step (below_alloc HB.out _) hb1)).grown hg2 (by have := (below_step (below_alloc HB.out _) hb1).size; omega) (fun k hk => by cases hk; omega))
      go_roundw
      case rel => exact ⟨kk + 1, (((p0, p1), true) :: L), by omega, by go_num, HG4, ⟨by simp [HN.out]⟩, HV2, HB2, HBB⟩
      case measure => simp [intOf]; omega
    · have hkl : kk = l1.length := by omega
      have HG2 := HG.out
      rw [hkl, List.drop_length] at HG2
      obtain rfl : L = Lf := Option.some.inj HG2
      clear HG2
      have hc0 := (blk_cell HB0.out 0).trans rfl
      have hc1' := (blk_cell HB0.out 1).trans rfl
      have hc2 := (blk_cell HB0.out 2).trans rfl
      have HF2 := Aside0.mk (Option.some.inj HF.out)
      clear hkl
      by_cases hm : wrap64 (a0_0 * a0_2) = (l1.length : Int)
      · have hmb : (wrap64 (a0_0 * a0_2) == (l1.length : Int)) = true := by simpa using hm
        have HM := Aside0.mk hm
        clear hm
        have hln := HV.out.len lawCell cellV_inj Try.underlying63 3
        go_wp2_with fail
        go_ret
        refine ⟨?_, HB.out⟩
        have hr := HF2.out
        rw [if_pos HM.out] at hr
        exact hr ▸ rfl
      · have hmb : (wrap64 (a0_0 * a0_2) == (l1.length : Int)) = false := by simpa using hm
        have HM := Aside0.mk hm
        clear hm
        go_wp2_with fail
        go_ret
        refine ⟨?_, HB.out⟩
        have hr := HF2.out
        rw [if_neg HM.out] at hr
        exact hr ▸ rfl

end Go.Proofs.Ytpinaeegopdknaa.Q
