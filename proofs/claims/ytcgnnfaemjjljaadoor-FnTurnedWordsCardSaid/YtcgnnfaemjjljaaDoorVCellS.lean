/- Lists of cells: what the laws' conversions give, what a shape is, for the reference; conditions stand with each. -/
import Derived.Test.YtcgnnfaemjjljaaDoorVEvt
import Derived.Test.YtcgnnfaemjjljaaDoorVNum1
import Derived.Test.YtcgnnfaemjjljaaDoorQ27
import Derived.Test.YtcgnnfaemjjljaaDoorQ33
import Derived.Test.YtcgnnfaemjjljaaDoorQ0
import Derived.Test.YtcgnnfaemjjljaaDoorOpn
namespace Go.Proofs.YtcgnnfaemjjljaaDoor.Pure
open Go.RowKit Go.Proofs.YtcgnnfaemjjljaaDoor Go.Proofs.YtcgnnfaemjjljaaDoor.Q Go.Proofs.YtcgnnfaemjjljaaDoorW.PrintWords
set_option linter.unusedVariables false
set_option linter.unusedSimpArgs false

abbrev Cell := S42
theorem rdC (l : List Cell) (i : Nat) (h : i < l.length) : rd_T42 l (i : Int) = l[i] := by
  simp [rd_T42, List.getD_eq_getElem?_getD, List.getElem?_eq_getElem h]

/-! ### the laws' own conversions -/
/-! ### shapes -/
def allF (ok : Nat → Bool) (n i : Nat) : Bool := (List.range' i (n - i)).all ok
theorem allF_end (ok : Nat → Bool) (n : Nat) : allF ok n n = true := by simp [allF]
theorem allF_succ (ok : Nat → Bool) {n i : Nat} (h : i < n) : allF ok n i = (ok i && allF ok n (i + 1)) := by
  unfold allF
  rw [show n - i = (n - (i + 1)) + 1 by omega, List.range'_succ]
  rfl
theorem allF_true {ok : Nat → Bool} {n i : Nat} : allF ok n i = true ↔ ∀ j, i ≤ j → j < n → ok j = true := by
  unfold allF
  rw [List.all_eq_true]
  constructor
  · intro h j h1 h2
    exact h j (by rw [List.mem_range'_1]; omega)
  · intro h j hj
    rw [List.mem_range'_1] at hj
    exact h j (by omega) (by omega)
def lessC (a b : Cell) : Bool := decide (a.f1 < b.f1) || (decide (a.f1 = b.f1) && decide (a.f0 < b.f0))
theorem l02Less_eq (a b : Cell) : spec_l02Less.f a.f0 a.f1 b.f0 b.f1 = some (lessC a b) := by
  unfold spec_l02Less.f lessC
  by_cases h : a.f1 < b.f1
  · simp [h]
  · by_cases h2 : a.f1 = b.f1
    · simp [h2]
    · simp [h, h2]
def shOk (l : List Cell) (i : Nat) : Bool := (Co (l.getD i z42).f0 && Co (l.getD i z42).f1) && (decide (i = 0) || lessC (l.getD (i - 1) z42) (l.getD i z42))
/-- The list is a shape. -/
def Sh (l : List Cell) : Bool := allF (shOk l) l.length 0 && decide (1 ≤ l.length ∧ l.length ≤ 40)
theorem rd_getD (l : List Cell) (i : Nat) : rd_T42 l (i : Int) = l.getD i z42 := by simp [rd_T42]
theorem spec_IsShape_eq (l : List Cell) (hl : l.length ≤ 9223372036854775807) : Evt (fun k => spec_IsShape.f k l) (Sh l) := by
  unfold spec_IsShape.f
  refine Evt.up (g := fun k i => spec_IsShape.l0 k l (i : Int)) (R := fun i => allF (shOk l) l.length i && decide (1 ≤ l.length ∧ l.length ≤ 40)) (n := l.length) ?_ ?_ 0 (Nat.zero_le _)
  · refine Evt.step (fun k => rfl) ?_
    simp only [spec_IsShape.l0]
    refine Evt.ite_neg (by omega) ?_
    rw [in_eq, allF_end, Bool.true_and]
    refine Evt.const ?_
    simp only [Option.bind_some]
    congr 1
    exact decide_eq_decide.2 (by omega)
  · intro i hi ih
    refine Evt.step (fun k => rfl) ?_
    simp only [spec_IsShape.l0, l02Cell_eq, Option.bind_some]
    refine Evt.ite_pos (by omega) (Evt.ite_pos (by omega) ?_)
    rw [allF_succ _ hi]
    simp only [rd_getD]
    by_cases hc : (Co (l.getD i z42).f0 && Co (l.getD i z42).f1) = true
    · refine Evt.ite_pos hc ?_
      by_cases h0 : i = 0
      · subst h0
        refine Evt.ite_neg (by omega) ?_
        rw [wrap_succ hi hl]
        have e : shOk l 0 = true := by unfold shOk; rw [hc]; rfl
        rw [e, Bool.true_and]
        exact ih
      · refine Evt.ite_pos (by omega) ?_
        have ew : wrap64 ((i : Int) - 1) = ((i - 1 : Nat) : Int) := by rw [w64 (by omega) (by omega)]; omega
        simp only [ew, rd_getD, l02Less_eq, Option.bind_some]
        refine Evt.ite_pos (by omega) (Evt.ite_pos (by omega) ?_)
        rw [wrap_succ hi hl]
        by_cases hls : lessC (l.getD (i - 1) z42) (l.getD i z42) = true
        · refine Evt.ite_pos hls ?_
          have e : shOk l i = true := by unfold shOk; rw [hc, hls]; simp
          rw [e, Bool.true_and]
          exact ih
        · refine Evt.ite_neg hls ?_
          have e : shOk l i = false := by unfold shOk; rw [hc, Bool.eq_false_iff.mpr hls]; simp [h0]
          rw [e]
          exact Evt.pure
    · refine Evt.ite_neg hc ?_
      have e : shOk l i = false := by unfold shOk; rw [Bool.eq_false_iff.mpr hc]; rfl
      rw [e]
      exact Evt.pure
theorem Sh_len {l : List Cell} (h : Sh l = true) : 1 ≤ l.length ∧ l.length ≤ 40 := by
  unfold Sh at h
  simp only [Bool.and_eq_true, decide_eq_true_eq] at h
  exact h.2
theorem Sh_co {l : List Cell} (h : Sh l = true) : ∀ c ∈ l, (-100 ≤ c.f0 ∧ c.f0 ≤ 100) ∧ -100 ≤ c.f1 ∧ c.f1 ≤ 100 := by
  intro c hc
  obtain ⟨i, hi, rfl⟩ := List.getElem_of_mem hc
  unfold Sh at h
  simp only [Bool.and_eq_true, decide_eq_true_eq] at h
  have h2 := allF_true.1 h.1 i (Nat.zero_le _) hi
  unfold shOk at h2
  simp only [Bool.and_eq_true, List.getD_eq_getElem?_getD, List.getElem?_eq_getElem hi, Option.getD_some] at h2
  exact ⟨Co_iff.1 h2.1.1, Co_iff.1 h2.1.2⟩
end Go.Proofs.YtcgnnfaemjjljaaDoor.Pure
