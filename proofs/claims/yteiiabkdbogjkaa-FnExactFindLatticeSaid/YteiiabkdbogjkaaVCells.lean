/- Lists of cells: what the laws' conversions give, what a shape is, for the program and for the reference alike; conditions stand with each. -/
import Derived.Test.YteiiabkdbogjkaaVEvt
import Derived.Test.YteiiabkdbogjkaaVNum
import Derived.Test.YteiiabkdbogjkaaQ5
import Derived.Test.YteiiabkdbogjkaaQ6
import Derived.Test.YteiiabkdbogjkaaQ8
import Derived.Test.YteiiabkdbogjkaaQ9
import Derived.Test.YteiiabkdbogjkaaQ12
import Derived.Test.YteiiabkdbogjkaaQ13
import Derived.Test.YteiiabkdbogjkaaQ14
import Derived.Test.YteiiabkdbogjkaaQ0
import Derived.Test.YteiiabkdbogjkaaOpn
namespace Go.Proofs.Yteiiabkdbogjkaa.Pure
open Go.RowKit Go.Proofs.Yteiiabkdbogjkaa Go.Proofs.Yteiiabkdbogjkaa.Q Go.Proofs.YteiiabkdbogjkaaW.PrintWords
set_option linter.unusedVariables false
set_option linter.unusedSimpArgs false

abbrev Cell := S33
abbrev LCell := S32
theorem rdL (l : List LCell) (i : Nat) (h : i < l.length) : rd_T32 l (i : Int) = l[i] := by
  simp [rd_T32, List.getD_eq_getElem?_getD, List.getElem?_eq_getElem h]
theorem rdC (l : List Cell) (i : Nat) (h : i < l.length) : rd_T33 l (i : Int) = l[i] := by
  simp [rd_T33, List.getD_eq_getElem?_getD, List.getElem?_eq_getElem h]

/-! ### the laws' own conversions -/
def toC (c : LCell) : Cell := ⟨c.f0, c.f1⟩
def toCs (l : List LCell) : List Cell := l.map toC
theorem toCs_len (l : List LCell) : (toCs l).length = l.length := by simp [toCs]
theorem szCellS_eq (l : List LCell) (h : l.length ≤ maxLen) : laws_szCellS.f l 1048576 = some (if l.length ≤ 1048576 then 1048576 - (l.length : Int) else -1) := by
  unfold maxLen at h
  unfold laws_szCellS.f
  rw [w64 (by omega) (by omega)]
  by_cases hl : l.length ≤ 1048576
  · rw [if_neg (by omega), if_pos hl]
  · rw [if_pos (by omega), if_neg hl]
theorem toCellS_loop (l : List LCell) (hl : l.length ≤ 1048576) : ∀ (i : Nat) (acc : List Cell), i ≤ l.length → (acc.length = l.length ∧ acc.take i = (toCs l).take i) → Evt (fun k => laws_toCellS.l0 k l acc (i : Int)) (toCs l) := by
  refine Evt.upS (R := fun _ _ => toCs l) ?_ ?_
  · rintro acc ⟨h1, h2⟩
    refine Evt.step (fun k => rfl) ?_
    simp only [laws_toCellS.l0]
    refine Evt.ite_neg (by omega) ?_
    rw [List.take_of_length_le (by omega), List.take_of_length_le (by rw [toCs_len]; omega)] at h2
    rw [h2]
    exact Evt.pure
  · rintro i acc hi ⟨h1, h2⟩ ih
    refine Evt.step (fun k => rfl) ?_
    simp only [laws_toCellS.l0, laws_toCell.f, Option.bind_some]
    refine Evt.ite_pos (by omega) (Evt.ite_pos (by omega) (Evt.ite_pos (by omega) ?_))
    rw [wrap_succ hi (by omega), Int.toNat_natCast]
    refine ih _ ⟨by simpa using h1, ?_⟩
    rw [rdL l i hi]
    apply List.ext_getElem?
    intro j
    have h3 := congrArg (fun z => z[j]?) h2
    simp only [List.getElem?_take] at h3 ⊢
    by_cases hj : j < i
    · rw [if_pos (by omega)] at h3 ⊢
      rw [if_pos (by omega)] at h3 ⊢
      rw [List.getElem?_set_ne (by omega)]
      exact h3
    · by_cases hj2 : j = i
      · subst hj2
        rw [if_pos (by omega), if_pos (by omega), List.getElem?_set_self (by omega)]
        simp [toCs, toC, List.getElem?_eq_getElem hi]
      · rw [if_neg (by omega), if_neg (by omega)]
theorem toCellS_eq (l : List LCell) (hl : l.length ≤ 1048576) : Evt (fun k => laws_toCellS.f k l) (toCs l) := by
  unfold laws_toCellS.f
  refine Evt.ite_pos (by omega) (Evt.ite_pos (by omega) ?_)
  exact toCellS_loop l hl 0 _ (Nat.zero_le _) ⟨by simp, by simp⟩
theorem eqCellS_refl (l : List Cell) (hl : l.length ≤ 9223372036854775807) : Evt (fun k => laws_eqCellS.f k l l) true := by
  unfold laws_eqCellS.f
  refine Evt.ite_pos rfl ?_
  refine Evt.up (g := fun k i => laws_eqCellS.l0 k l l (i : Int)) (R := fun _ => true) (n := l.length) ?_ ?_ 0 (Nat.zero_le _)
  · refine Evt.step (fun k => rfl) ?_
    simp only [laws_eqCellS.l0]
    exact Evt.ite_neg (by omega) Evt.pure
  · intro i hi ih
    refine Evt.step (fun k => rfl) ?_
    simp only [laws_eqCellS.l0, laws_eqCell.f, if_true, Option.bind_some]
    refine Evt.ite_pos (by omega) (Evt.ite_pos (by omega) (Evt.ite_pos (by omega) ?_))
    rw [wrap_succ hi hl]
    exact ih

/-! ### shapes -/
def allF (ok : Nat → Bool) (n i : Nat) : Bool := (List.range' i (n - i)).all ok
theorem allF_end (ok : Nat → Bool) (n : Nat) : allF ok n n = true := by simp [allF]
theorem allF_succ (ok : Nat → Bool) {n i : Nat} (h : i < n) : allF ok n i = (ok i && allF ok n (i + 1)) := by
  unfold allF
  rw [show n - i = (n - (i + 1)) + 1 by omega, List.range'_succ]
  rfl
theorem allF_true {ok : Nat → Bool} {n i : Nat} : allF ok n i = true ↔ ∀ j, i ≤ j → j < n → ok j = true := by
  unfold allF
  rw [List.all_eq_true]
  constructor
  · intro h j h1 h2
    exact h j (by rw [List.mem_range'_1]; omega)
  · intro h j hj
    rw [List.mem_range'_1] at hj
    exact h j (by omega) (by omega)
def lessC (a b : Cell) : Bool := decide (a.f1 < b.f1) || (decide (a.f1 = b.f1) && decide (a.f0 < b.f0))
theorem l02Less_eq (a b : Cell) : spec_l02Less.f a.f0 a.f1 b.f0 b.f1 = some (lessC a b) := by
  unfold spec_l02Less.f lessC
  by_cases h : a.f1 < b.f1
  · simp [h]
  · by_cases h2 : a.f1 = b.f1
    · simp [h2]
    · simp [h, h2]
theorem isNaN_eq (x : Int) : cmp_isNaN_int64.f x = some false := by
  unfold cmp_isNaN_int64.f
  simp
def cmpI (a b : Int) : Int := if a < b then -1 else if a > b then 1 else 0
theorem Compare_eq (a b : Int) : cmp_Compare_int64.f a b = some (cmpI a b) := by
  unfold cmp_Compare_int64.f cmpI
  rw [isNaN_eq, isNaN_eq]
  simp only [Option.bind_some]
  by_cases h1 : a < b
  · simp [h1]
  · by_cases h2 : a > b
    · simp [h1, h2]
    · simp [h1, h2]
def cmpC (a b : Cell) : Int := if cmpI a.f1 b.f1 = 0 then cmpI a.f0 b.f0 else cmpI a.f1 b.f1
theorem compareCells_eq (a b : Cell) : impl_compareCells.f a.f0 a.f1 b.f0 b.f1 = some (cmpC a b) := by
  unfold impl_compareCells.f cmpC
  rw [Compare_eq, Compare_eq]
  simp only [Option.bind_some]
  by_cases h : cmpI a.f1 b.f1 = 0
  · rw [if_pos h, if_pos h]
  · rw [if_neg h, if_neg h]
theorem cmpC_less (a b : Cell) : cmpC a b < 0 ↔ lessC a b = true := by
  unfold cmpC cmpI lessC
  repeat (split)
  all_goals (simp; omega)
def shOk (l : List Cell) (i : Nat) : Bool := (Co (l.getD i z33).f0 && Co (l.getD i z33).f1) && (decide (i = 0) || lessC (l.getD (i - 1) z33) (l.getD i z33))
/-- The list is a shape. -/
def Sh (l : List Cell) : Bool := allF (shOk l) l.length 0 && decide (1 ≤ l.length ∧ l.length ≤ 40)
theorem rd_getD (l : List Cell) (i : Nat) : rd_T33 l (i : Int) = l.getD i z33 := by simp [rd_T33]
theorem spec_IsShape_eq (l : List Cell) (hl : l.length ≤ 9223372036854775807) : Evt (fun k => spec_IsShape.f k l) (Sh l) := by
  unfold spec_IsShape.f
  refine Evt.up (g := fun k i => spec_IsShape.l0 k l (i : Int)) (R := fun i => allF (shOk l) l.length i && decide (1 ≤ l.length ∧ l.length ≤ 40)) (n := l.length) ?_ ?_ 0 (Nat.zero_le _)
  · refine Evt.step (fun k => rfl) ?_
    simp only [spec_IsShape.l0]
    refine Evt.ite_neg (by omega) ?_
    rw [in_eq, allF_end, Bool.true_and]
    refine Evt.const ?_
    simp only [Option.bind_some]
    congr 1
    exact decide_eq_decide.2 (by omega)
  · intro i hi ih
    refine Evt.step (fun k => rfl) ?_
    simp only [spec_IsShape.l0, l02Cell_eq, Option.bind_some]
    refine Evt.ite_pos (by omega) (Evt.ite_pos (by omega) ?_)
    rw [allF_succ _ hi]
    simp only [rd_getD]
    by_cases hc : (Co (l.getD i z33).f0 && Co (l.getD i z33).f1) = true
    · refine Evt.ite_pos hc ?_
      by_cases h0 : i = 0
      · subst h0
        refine Evt.ite_neg (by omega) ?_
        rw [wrap_succ hi hl]
        have e : shOk l 0 = true := by unfold shOk; rw [hc]; rfl
        rw [e, Bool.true_and]
        exact ih
      · refine Evt.ite_pos (by omega) ?_
        have ew : wrap64 ((i : Int) - 1) = ((i - 1 : Nat) : Int) := by rw [w64 (by omega) (by omega)]; omega
        simp only [ew, rd_getD, l02Less_eq, Option.bind_some]
        refine Evt.ite_pos (by omega) (Evt.ite_pos (by omega) ?_)
        rw [wrap_succ hi hl]
        by_cases hls : lessC (l.getD (i - 1) z33) (l.getD i z33) = true
        · refine Evt.ite_pos hls ?_
          have e : shOk l i = true := by unfold shOk; rw [hc, hls]; simp
          rw [e, Bool.true_and]
          exact ih
        · refine Evt.ite_neg hls ?_
          have e : shOk l i = false := by unfold shOk; rw [hc, Bool.eq_false_iff.mpr hls]; simp [h0]
          rw [e]
          exact Evt.pure
    · refine Evt.ite_neg hc ?_
      have e : shOk l i = false := by unfold shOk; rw [Bool.eq_false_iff.mpr hc]; rfl
      rw [e]
      exact Evt.pure
theorem impl_IsShape_eq (l : List Cell) (hl : l.length ≤ 9223372036854775807) : Evt (fun k => impl_IsShape.f k l) (Sh l) := by
  unfold impl_IsShape.f
  refine Evt.up (g := fun k i => impl_IsShape.l0 k l l (l.length : Int) (i : Int)) (R := fun i => allF (shOk l) l.length i && decide (1 ≤ l.length ∧ l.length ≤ 40)) (n := l.length) ?_ ?_ 0 (Nat.zero_le _)
  · refine Evt.step (fun k => rfl) ?_
    simp only [impl_IsShape.l0]
    refine Evt.ite_neg (by omega) ?_
    rw [allF_end]
    by_cases h1 : (l.length : Int) ≥ 1
    · refine Evt.ite_pos h1 (Evt.const ?_)
      rw [Bool.true_and]
      congr 1
      exact decide_eq_decide.2 (by omega)
    · refine Evt.ite_neg h1 (Evt.const ?_)
      simp
      omega
  · intro i hi ih
    refine Evt.step (fun k => rfl) ?_
    simp only [impl_IsShape.l0, isCoordinate_eq, Option.bind_some]
    refine Evt.ite_pos (by omega) (Evt.ite_pos (by omega) (Evt.ite_pos (by omega) ?_))
    rw [allF_succ _ hi]
    simp only [rd_getD]
    by_cases hc0 : Co (l.getD i z33).f0 = true
    · refine Evt.ite_pos hc0 ?_
      by_cases hc1 : Co (l.getD i z33).f1 = true
      · refine Evt.ite_pos hc1 ?_
        by_cases h0 : i = 0
        · subst h0
          refine Evt.ite_neg (by omega) ?_
          rw [wrap_succ hi hl]
          have e : shOk l 0 = true := by unfold shOk; rw [hc0, hc1]; rfl
          rw [e, Bool.true_and]
          exact ih
        · refine Evt.ite_pos (by omega) ?_
          have ew : wrap64 ((i : Int) - 1) = ((i - 1 : Nat) : Int) := by rw [w64 (by omega) (by omega)]; omega
          simp only [ew, rd_getD, compareCells_eq, Option.bind_some]
          refine Evt.ite_pos (by omega) (Evt.ite_pos (by omega) ?_)
          rw [wrap_succ hi hl]
          have hiff := cmpC_less (l.getD (i - 1) z33) (l.getD i z33)
          by_cases hls : lessC (l.getD (i - 1) z33) (l.getD i z33) = true
          · refine Evt.ite_neg (by have := hiff.2 hls; omega) ?_
            have e : shOk l i = true := by unfold shOk; rw [hc0, hc1, hls]; simp
            rw [e, Bool.true_and]
            exact ih
          · refine Evt.ite_pos (by rcases Int.lt_or_le (cmpC (l.getD (i - 1) z33) (l.getD i z33)) 0 with h | h; exact absurd (hiff.1 h) hls; exact h) ?_
            have e : shOk l i = false := by unfold shOk; rw [hc0, hc1, Bool.eq_false_iff.mpr hls]; simp [h0]
            rw [e]
            exact Evt.pure
      · refine Evt.ite_neg hc1 ?_
        have e : shOk l i = false := by unfold shOk; rw [Bool.eq_false_iff.mpr hc1]; simp
        rw [e]
        exact Evt.pure
    · refine Evt.ite_neg hc0 ?_
      have e : shOk l i = false := by unfold shOk; rw [Bool.eq_false_iff.mpr hc0]; rfl
      rw [e]
      exact Evt.pure
theorem Sh_len {l : List Cell} (h : Sh l = true) : 1 ≤ l.length ∧ l.length ≤ 40 := by
  unfold Sh at h
  simp only [Bool.and_eq_true, decide_eq_true_eq] at h
  exact h.2
theorem Sh_co {l : List Cell} (h : Sh l = true) : ∀ c ∈ l, (-100 ≤ c.f0 ∧ c.f0 ≤ 100) ∧ -100 ≤ c.f1 ∧ c.f1 ≤ 100 := by
  intro c hc
  obtain ⟨i, hi, rfl⟩ := List.getElem_of_mem hc
  unfold Sh at h
  simp only [Bool.and_eq_true, decide_eq_true_eq] at h
  have h2 := allF_true.1 h.1 i (Nat.zero_le _) hi
  unfold shOk at h2
  simp only [Bool.and_eq_true, List.getD_eq_getElem?_getD, List.getElem?_eq_getElem hi, Option.getD_some] at h2
  exact ⟨Co_iff.1 h2.1.1, Co_iff.1 h2.1.2⟩
end Go.Proofs.Yteiiabkdbogjkaa.Pure
