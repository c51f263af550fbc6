/- Written by a program of this session (wip/tools/pp.py) out of the translation, with the kit's printer. -/
import Derived.Test.YtbphiipcnjelbaaGreatQ0
import Derived.Test.YtbphiipcnjelbaaGreatQ10
import Derived.Test.YtbphiipcnjelbaaGreatQGimpltidyShapes
import Derived.Test.YtbphiipcnjelbaaGreatQGimplsorted
import Derived.Test.YtbphiipcnjelbaaGreatQ13
import Derived.LoopTactic
namespace Go.Proofs.YtbphiipcnjelbaaGreat.Q
open Go.RowKit Go.Proofs.YtbphiipcnjelbaaGreatW.PrintWords Go.Proofs.YtbphiipcnjelbaaGreatW.PrintLast Go.Proofs.YtbphiipcnjelbaaGreatW.PrintMore
attribute [local go_sem] max2_int min2_int max_two min_two max_three min_three max_four min_four
set_option linter.unusedVariables false
set_option linter.unusedSimpArgs false
theorem eqL_len : ∀ a b : List S66, a.length ≠ b.length → eqL a b = false
 | [], [], h => absurd rfl h
 | [], _ :: _, _ => rfl
 | _ :: _, [], _ => rfl
 | a :: r, b :: s, h => by
  rw [eqL, eqL_len r s (by simpa using h), Bool.and_false]
theorem eqL_run (a b : List S66) (hl : a.length = b.length) (hn : a.length ≤ 1000000) : ∀ (d i : Nat), i + d = a.length → impl_Cell_123.l0 (d + 1) a b (a.length : Int) (i : Int) = some (eqL (a.drop i) (b.drop i))
 | 0, i, h => by
  unfold impl_Cell_123.l0
  rw [if_neg (by omega), List.drop_of_length_le (by omega), List.drop_of_length_le (by omega)]
  rfl
 | d + 1, i, h => by
  have hi : i < a.length := by omega
  have hj : i < b.length := by omega
  have ea : a.drop i = rd_T66 a (i : Int) :: a.drop (i + 1) := by
   rw [List.drop_eq_getElem_cons hi]
   simp [rd_T66, List.getD_eq_getElem?_getD, List.getElem?_eq_getElem hi]
  have eb : b.drop i = rd_T66 b (i : Int) :: b.drop (i + 1) := by
   rw [List.drop_eq_getElem_cons hj]
   simp [rd_T66, List.getD_eq_getElem?_getD, List.getElem?_eq_getElem hj]
  unfold impl_Cell_123.l0
  rw [if_pos (by omega), if_pos (by omega), if_pos (by omega), if_pos (by omega), ea, eb, eqL]
  have hw : wrap64 ((i : Int) + 1) = ((i + 1 : Nat) : Int) := by unfold wrap64; omega
  rw [hw]
  cases h0 : (rd_T66 a (i : Int)).f0 == (rd_T66 b (i : Int)).f0
  ·rw [if_pos (by simp)]
   rfl
  ·cases h1 : (rd_T66 a (i : Int)).f1 == (rd_T66 b (i : Int)).f1
   ·rw [if_pos (by simp)]
    rfl
   ·rw [if_neg (by simp), eqL_run a b hl hn d (i + 1) (by omega)]
    rfl
theorem eqL_f (a b : List S66) (hn : a.length ≤ 1000000) : impl_Cell_123.f (a.length + 1) a b = some (eqL a b) := by
 unfold impl_Cell_123.f
 by_cases hl : a.length = b.length
 ·rw [if_pos (by omega)]
  have h := eqL_run a b hl hn a.length 0 (by omega)
  exact h
 ·rw [if_neg (by omega), eqL_len a b hl]
set_option maxHeartbeats 1600000 in
theorem impl_formsOf.own (k : Nat) (A0_0 : Option Addr) (c0_0 : Nat) (l0_0 : List (S66)) (a0_1 : Int) (a0_2 : Bool) (fs : List (List S66)) (w : World) (hr0_0 : Kd.C k66 w A0_0 l0_0.length l0_0) (hc0_0 : l0_0.length ≤ c0_0) (h : impl_forms.f k l0_0 (if a0_2 = true then 8 else 4) = some fs) (hp : 0 < fs.length) (hl : fs.length ≤ 1000) (hs : ∀ a ∈ fs, a.length ≤ 1000000) :
  Calls Tryz.prog 48 #[.agg #[.slice A0_0 l0_0.length c0_0, .int .i64 a0_1, .bool a0_2]] w fun e w' => ∃ v ys, e = .returned v ∧ ((∀ a, a ∈ ys ↔ a ∈ fs) ∧ ys.length ≤ fs.length) ∧ Kd.R (Kd.slice 66 k66) 29 w' w.heap.size (fun _ => True) v ys ∧ Below w.heap.size w w' := by
 have hu30 := Tryz.underlying31
 have HR := Aside0.mk hr0_0
 have HH := Aside0.mk h
 have HB0 := Aside0.mk (below_alloc (Below.refl w.heap.size w) (.cells #[.slice A0_0 l0_0.length c0_0, .int .i64 a0_1, .bool a0_2] 31))
 have hE : ∀ i j, ∃ k, impl_equalShapes.f k (fs.getD i []) (fs.getD j []) = some (eqL (fs.getD i []) (fs.getD j [])) := by
  intro i j
  have hi : (fs.getD i []).length ≤ 1000000 := by
   by_cases hi : i < fs.length
   ·have e : fs.getD i [] = fs[i] := by simp [List.getD_eq_getElem?_getD, List.getElem?_eq_getElem hi]
    rw [e]
    exact hs _ (List.getElem_mem hi)
   ·rw [List.getD_eq_getElem?_getD, List.getElem?_eq_none (by omega)]
    simp
  refine ⟨(fs.getD i []).length + 1, ?_⟩
  unfold impl_equalShapes.f
  rw [eqL_f _ _ hi]
  rfl
 have HE := Aside0.mk hE
 have HP := Aside0.mk hp
 have HL := Aside0.mk hl
 clear hr0_0 h hE hp hl hs
 cases a0_2 with
 | true =>
  rw [if_pos rfl] at HH
  go_enter Tryz.func48, Tryz.ntmps48
  go_wp2_with (first
   | (go_at_call 69; (with_reducible refine (impl_forms.calls k _ _ l0_0 8 fs _ (Kd.C_below HR.out HB0.out) hc0_0 HH.out).mono ?_); rintro e w1 ⟨v1, rfl, ho1, hb1⟩; have HO1 := Aside0.mk (Kd.S_R ho1); have HB1 := Aside0.mk (below_step HB0.out hb1); clear ho1 hb1)
   | (go_at_call 68; refine (impl_tidyShapes.own _ w.heap.size (fun _ => True) v1 fs (Kd.R_lower HO1.out (by have := HB0.out.size; omega)) HP.out HL.out HE.out).mono ?_; rintro e w2 ⟨v2, ys, rfl, hm, hR2, hG2⟩; have HO2 := Aside0.mk hR2; have HM := Aside0.mk hm; have HB2 := Aside0.mk (below_grownC HB1.out hG2 (fun k hk => by have h9 := ((Kd.R_bound HO1.out).1 k hk).2.1; have := HB0.out.size; omega)); clear hR2 hG2 hm))
  go_ret
  exact ⟨_, ys, rfl, HM.out, HO2.out, HB2.out⟩
 | false =>
  rw [if_neg (by decide)] at HH
  go_enter Tryz.func48, Tryz.ntmps48
  go_wp2_with (first
   | (go_at_call 69; (with_reducible refine (impl_forms.calls k _ _ l0_0 4 fs _ (Kd.C_below HR.out HB0.out) hc0_0 HH.out).mono ?_); rintro e w1 ⟨v1, rfl, ho1, hb1⟩; have HO1 := Aside0.mk (Kd.S_R ho1); have HB1 := Aside0.mk (below_step HB0.out hb1); clear ho1 hb1)
   | (go_at_call 68; refine (impl_tidyShapes.own _ w.heap.size (fun _ => True) v1 fs (Kd.R_lower HO1.out (by have := HB0.out.size; omega)) HP.out HL.out HE.out).mono ?_; rintro e w2 ⟨v2, ys, rfl, hm, hR2, hG2⟩; have HO2 := Aside0.mk hR2; have HM := Aside0.mk hm; have HB2 := Aside0.mk (below_grownC HB1.out hG2 (fun k hk => by have h9 := ((Kd.R_bound HO1.out).1 k hk).2.1; have := HB0.out.size; omega)); clear hR2 hG2 hm))
  go_ret
  exact ⟨_, ys, rfl, HM.out, HO2.out, HB2.out⟩
end Go.Proofs.YtbphiipcnjelbaaGreat.Q
