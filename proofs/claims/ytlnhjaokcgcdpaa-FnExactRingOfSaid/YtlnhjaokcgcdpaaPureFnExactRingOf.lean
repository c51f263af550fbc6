/- The pure side of the law FnExactRingOf: parts of this session, put into one text by merge.py. -/
import Derived.Test.YtlnhjaokcgcdpaaQ0
import Derived.Test.YtlnhjaokcgcdpaaOpn
import Derived.Test.YtlnhjaokcgcdpaaQ2
import Derived.Test.YtlnhjaokcgcdpaaQ7
import Derived.Test.YtlnhjaokcgcdpaaQ3
import Derived.Test.YtlnhjaokcgcdpaaQ4
import Derived.Test.YtlnhjaokcgcdpaaQ5
import Derived.Test.YtlnhjaokcgcdpaaQGimplCell26
import Derived.Test.YtlnhjaokcgcdpaaQGimplCell27
import Derived.Test.YtlnhjaokcgcdpaaQGimplbeside
import Derived.Test.YtlnhjaokcgcdpaaQ6
import Derived.Test.YtlnhjaokcgcdpaaQ13
import Derived.Test.YtlnhjaokcgcdpaaQ8
import Derived.Test.YtlnhjaokcgcdpaaQ9
import Derived.Test.YtlnhjaokcgcdpaaQ12
import Derived.Test.YtlnhjaokcgcdpaaQGimplRingOf
import Derived.Test.YtlnhjaokcgcdpaaQ14
import Derived.Test.YtlnhjaokcgcdpaaUFnExactRingOf
section
namespace Go.Proofs.Ytlnhjaokcgcdpaa.Pure
open Go.RowKit
set_option linter.unusedVariables false
set_option linter.unusedSimpArgs false
def Evt {α : Type} (g : Nat → Option α) (r : α) : Prop := ∃ K, ∀ k, K ≤ k → g k = some r
theorem Evt.out {α : Type} {g : Nat → Option α} {r : α} (h : Evt g r) : ∃ k, g k = some r := by
  obtain ⟨K, h⟩ := h
  exact ⟨K, h K (Nat.le_refl _)⟩
theorem Evt.pure {α : Type} {r : α} : Evt (fun _ => some r) r := ⟨0, fun _ _ => rfl⟩
theorem Evt.const {α : Type} {o : Option α} {r : α} (h : o = some r) : Evt (fun _ => o) r := ⟨0, fun _ _ => h⟩
theorem Evt.of_eq {α : Type} {g g' : Nat → Option α} {r : α} (e : ∀ k, g' k = g k) (h : Evt g r) : Evt g' r := by
  obtain ⟨K, h⟩ := h
  exact ⟨K, fun k hk => (e k).trans (h k hk)⟩
theorem Evt.bind {α β : Type} {g : Nat → Option α} {f : Nat → α → Option β} {a : α} {r : β} (h : Evt g a) (h2 : Evt (fun k => f k a) r) : Evt (fun k => (g k).bind (f k)) r := by
  obtain ⟨K, h⟩ := h
  obtain ⟨K2, h2⟩ := h2
  refine ⟨K + K2, fun k hk => ?_⟩
  show (g k).bind (f k) = some r
  rw [h k (by omega)]
  exact h2 k (by omega)
theorem Evt.step {α : Type} {g h : Nat → Option α} {r : α} (e : ∀ k, g (k + 1) = h k) (hh : Evt h r) : Evt g r := by
  obtain ⟨K, hh⟩ := hh
  refine ⟨K + 1, fun k hk => ?_⟩
  obtain ⟨m, rfl⟩ : ∃ m, k = m + 1 := ⟨k - 1, by omega⟩
  rw [e m]
  exact hh m (by omega)
theorem Evt.ite_pos {α : Type} {c : Prop} [Decidable c] {g h : Nat → Option α} {r : α} (hc : c) (hg : Evt g r) : Evt (fun k => if c then g k else h k) r := Evt.of_eq (fun k => if_pos hc) hg
theorem Evt.ite_neg {α : Type} {c : Prop} [Decidable c] {g h : Nat → Option α} {r : α} (hc : ¬ c) (hg : Evt h r) : Evt (fun k => if c then g k else h k) r := Evt.of_eq (fun k => if_neg hc) hg
theorem Evt.up {α : Type} {g : Nat → Nat → Option α} {R : Nat → α} {n : Nat} (hend : Evt (fun k => g k n) (R n)) (hstep : ∀ i, i < n → Evt (fun k => g k (i + 1)) (R (i + 1)) → Evt (fun k => g k i) (R i)) : ∀ i, i ≤ n → Evt (fun k => g k i) (R i) := by
  intro i hi
  obtain ⟨d, hd⟩ : ∃ d, n = i + d := ⟨n - i, by omega⟩
  induction d generalizing i with
  | zero => have e : i = n := by omega
            rw [e]; exact hend
  | succ d ih => exact hstep i (by omega) (ih (i + 1) (by omega) (by omega))
theorem Evt.upS {α σ : Type} {g : Nat → Nat → σ → Option α} {R : Nat → σ → α} {P : Nat → σ → Prop} {n : Nat} (hend : ∀ s, P n s → Evt (fun k => g k n s) (R n s))
    (hstep : ∀ i s, i < n → P i s → (∀ s', P (i + 1) s' → Evt (fun k => g k (i + 1) s') (R (i + 1) s')) → Evt (fun k => g k i s) (R i s)) : ∀ i s, i ≤ n → P i s → Evt (fun k => g k i s) (R i s) := by
  intro i s hi hp
  obtain ⟨d, hd⟩ : ∃ d, n = i + d := ⟨n - i, by omega⟩
  induction d generalizing i s with
  | zero => have e : i = n := by omega
            rw [e] at hp ⊢; exact hend s hp
  | succ d ih => exact hstep i s (by omega) hp (fun s' hp' => ih (i + 1) s' (by omega) hp' (by omega))
def Both {α : Type} (g h : Nat → Option α) : Prop := ∃ r, Evt g r ∧ Evt h r
theorem Both.pure {α : Type} {r : α} : Both (fun _ => some r) (fun _ => some r) := ⟨r, Evt.pure, Evt.pure⟩
theorem wrap_succ {i n : Nat} (h : i < n) (hn : n ≤ 9223372036854775807) : wrap64 ((i : Int) + 1) = ((i + 1 : Nat) : Int) := by
  unfold wrap64
  omega
end Go.Proofs.Ytlnhjaokcgcdpaa.Pure
end
section
namespace Go.Proofs.Ytlnhjaokcgcdpaa.Pure
open Go.RowKit Go.Proofs.Ytlnhjaokcgcdpaa Go.Proofs.Ytlnhjaokcgcdpaa.Q Go.Proofs.YtlnhjaokcgcdpaaW.PrintWords
set_option linter.unusedVariables false
set_option linter.unusedSimpArgs false
theorem w64 {n : Int} (h0 : -9223372036854775808 ≤ n) (h1 : n ≤ 9223372036854775807) : wrap64 n = n := by
  unfold wrap64
  omega
theorem in_eq (a b c : Int) : spec_l01In.f a b c = some (decide (b ≤ a ∧ a ≤ c)) := by
  unfold spec_l01In.f
  by_cases h : a ≥ b
  · rw [if_pos h]; simp; intro _; exact h
  · rw [if_neg h]; simp; intro h2; omega
theorem within_eq (a b c : Int) : impl_within.f a b c = some (decide (b ≤ a ∧ a ≤ c)) := in_eq a b c
end Go.Proofs.Ytlnhjaokcgcdpaa.Pure
end
section
namespace Go.Proofs.Ytlnhjaokcgcdpaa.Pure
open Go.RowKit Go.Proofs.Ytlnhjaokcgcdpaa Go.Proofs.Ytlnhjaokcgcdpaa.Q Go.Proofs.YtlnhjaokcgcdpaaW.PrintWords
set_option linter.unusedVariables false
set_option linter.unusedSimpArgs false
def Co (x : Int) : Bool := decide (-100 ≤ x ∧ x ≤ 100)
theorem Co_iff {x : Int} : Co x = true ↔ -100 ≤ x ∧ x ≤ 100 := by simp [Co]
theorem l02Cell_eq (x y : Int) : spec_l02Cell.f x y = some (Co x && Co y) := by
  unfold spec_l02Cell.f Co
  rw [in_eq]
  simp only [Option.bind_some]
  by_cases c : -100 ≤ x ∧ x ≤ 100
  · rw [if_pos (by simpa using c), in_eq]
    simp [c]
  · rw [if_neg (by simpa using c)]
    simp [c]
end Go.Proofs.Ytlnhjaokcgcdpaa.Pure
end
section
namespace Go.Proofs.Ytlnhjaokcgcdpaa.Pure
open Go.RowKit Go.Proofs.Ytlnhjaokcgcdpaa Go.Proofs.Ytlnhjaokcgcdpaa.Q Go.Proofs.YtlnhjaokcgcdpaaW.PrintWords
set_option linter.unusedVariables false
set_option linter.unusedSimpArgs false
abbrev Cell := S34
theorem rdC (l : List Cell) (i : Nat) (h : i < l.length) : rd_T34 l (i : Int) = l[i] := by
  simp [rd_T34, List.getD_eq_getElem?_getD, List.getElem?_eq_getElem h]
def allF (ok : Nat → Bool) (n i : Nat) : Bool := (List.range' i (n - i)).all ok
theorem allF_end (ok : Nat → Bool) (n : Nat) : allF ok n n = true := by simp [allF]
theorem allF_succ (ok : Nat → Bool) {n i : Nat} (h : i < n) : allF ok n i = (ok i && allF ok n (i + 1)) := by
  unfold allF
  rw [show n - i = (n - (i + 1)) + 1 by omega, List.range'_succ]
  rfl
theorem allF_true {ok : Nat → Bool} {n i : Nat} : allF ok n i = true ↔ ∀ j, i ≤ j → j < n → ok j = true := by
  unfold allF
  rw [List.all_eq_true]
  constructor
  · intro h j h1 h2
    exact h j (by rw [List.mem_range'_1]; omega)
  · intro h j hj
    rw [List.mem_range'_1] at hj
    exact h j (by omega) (by omega)
def lessC (a b : Cell) : Bool := decide (a.f1 < b.f1) || (decide (a.f1 = b.f1) && decide (a.f0 < b.f0))
theorem l02Less_eq (a b : Cell) : spec_l02Less.f a.f0 a.f1 b.f0 b.f1 = some (lessC a b) := by
  unfold spec_l02Less.f lessC
  by_cases h : a.f1 < b.f1
  · simp [h]
  · by_cases h2 : a.f1 = b.f1
    · simp [h2]
    · simp [h, h2]
def shOk (l : List Cell) (i : Nat) : Bool := (Co (l.getD i z34).f0 && Co (l.getD i z34).f1) && (decide (i = 0) || lessC (l.getD (i - 1) z34) (l.getD i z34))
def Sh (l : List Cell) : Bool := allF (shOk l) l.length 0 && decide (1 ≤ l.length ∧ l.length ≤ 40)
theorem rd_getD (l : List Cell) (i : Nat) : rd_T34 l (i : Int) = l.getD i z34 := by simp [rd_T34]
theorem spec_IsShape_eq (l : List Cell) (hl : l.length ≤ 9223372036854775807) : Evt (fun k => spec_IsShape.f k l) (Sh l) := by
  unfold spec_IsShape.f
  refine Evt.up (g := fun k i => spec_IsShape.l0 k l (i : Int)) (R := fun i => allF (shOk l) l.length i && decide (1 ≤ l.length ∧ l.length ≤ 40)) (n := l.length) ?_ ?_ 0 (Nat.zero_le _)
  · refine Evt.step (fun k => rfl) ?_
    simp only [spec_IsShape.l0]
    refine Evt.ite_neg (by omega) ?_
    rw [in_eq, allF_end, Bool.true_and]
    refine Evt.const ?_
    simp only [Option.bind_some]
    congr 1
    exact decide_eq_decide.2 (by omega)
  · intro i hi ih
    refine Evt.step (fun k => rfl) ?_
    simp only [spec_IsShape.l0, l02Cell_eq, Option.bind_some]
    refine Evt.ite_pos (by omega) (Evt.ite_pos (by omega) ?_)
    rw [allF_succ _ hi]
    simp only [rd_getD]
    by_cases hc : (Co (l.getD i z34).f0 && Co (l.getD i z34).f1) = true
    · refine Evt.ite_pos hc ?_
      by_cases h0 : i = 0
      · subst h0
        refine Evt.ite_neg (by omega) ?_
        rw [wrap_succ hi hl]
        have e : shOk l 0 = true := by unfold shOk; rw [hc]; rfl
        rw [e, Bool.true_and]
        exact ih
      · refine Evt.ite_pos (by omega) ?_
        have ew : wrap64 ((i : Int) - 1) = ((i - 1 : Nat) : Int) := by rw [w64 (by omega) (by omega)]; omega
        simp only [ew, rd_getD, l02Less_eq, Option.bind_some]
        refine Evt.ite_pos (by omega) (Evt.ite_pos (by omega) ?_)
        rw [wrap_succ hi hl]
        by_cases hls : lessC (l.getD (i - 1) z34) (l.getD i z34) = true
        · refine Evt.ite_pos hls ?_
          have e : shOk l i = true := by unfold shOk; rw [hc, hls]; simp
          rw [e, Bool.true_and]
          exact ih
        · refine Evt.ite_neg hls ?_
          have e : shOk l i = false := by unfold shOk; rw [hc, Bool.eq_false_iff.mpr hls]; simp [h0]
          rw [e]
          exact Evt.pure
    · refine Evt.ite_neg hc ?_
      have e : shOk l i = false := by unfold shOk; rw [Bool.eq_false_iff.mpr hc]; rfl
      rw [e]
      exact Evt.pure
theorem Sh_len {l : List Cell} (h : Sh l = true) : 1 ≤ l.length ∧ l.length ≤ 40 := by
  unfold Sh at h
  simp only [Bool.and_eq_true, decide_eq_true_eq] at h
  exact h.2
theorem Sh_co {l : List Cell} (h : Sh l = true) : ∀ c ∈ l, (-100 ≤ c.f0 ∧ c.f0 ≤ 100) ∧ -100 ≤ c.f1 ∧ c.f1 ≤ 100 := by
  intro c hc
  obtain ⟨i, hi, rfl⟩ := List.getElem_of_mem hc
  unfold Sh at h
  simp only [Bool.and_eq_true, decide_eq_true_eq] at h
  have h2 := allF_true.1 h.1 i (Nat.zero_le _) hi
  unfold shOk at h2
  simp only [Bool.and_eq_true, List.getD_eq_getElem?_getD, List.getElem?_eq_getElem hi, Option.getD_some] at h2
  exact ⟨Co_iff.1 h2.1.1, Co_iff.1 h2.1.2⟩
end Go.Proofs.Ytlnhjaokcgcdpaa.Pure
end
section
namespace Go.Proofs.Ytlnhjaokcgcdpaa.Pure
open Go.RowKit Go.Proofs.Ytlnhjaokcgcdpaa Go.Proofs.Ytlnhjaokcgcdpaa.Q Go.Proofs.YtlnhjaokcgcdpaaW.PrintWords
set_option linter.unusedVariables false
set_option linter.unusedSimpArgs false
def cc (p : Int × Int) : Cell := ⟨p.1, p.2⟩
def ixAt (p : Int × Int) : Nat → List Cell → Int
  | _, [] => -1
  | i, c :: r => if c.f0 = p.1 ∧ c.f1 = p.2 then (i : Int) else ixAt p (i + 1) r
theorem ixAt_mem (p : Int × Int) : ∀ (l : List Cell) (i : Nat), 0 ≤ ixAt p i l ↔ cc p ∈ l
  | [], i => by simp [ixAt]
  | c :: r, i => by
    unfold ixAt
    by_cases h : c.f0 = p.1 ∧ c.f1 = p.2
    · rw [if_pos h]
      have e : c = cc p := by
        cases c
        unfold cc
        simp at h
        rw [h.1, h.2]
      simp [e]
    · rw [if_neg h, ixAt_mem p r (i + 1), List.mem_cons]
      constructor
      · exact fun h2 => Or.inr h2
      · rintro (e | h2)
        · exact absurd (by rw [← e]; exact ⟨rfl, rfl⟩) h
        · exact h2
theorem drop_getD {α : Type} (l : List α) (i : Nat) (z : α) (h : i < l.length) : l.drop i = l.getD i z :: l.drop (i + 1) := by
  rw [List.drop_eq_getElem_cons h]
  simp [List.getD_eq_getElem?_getD, List.getElem?_eq_getElem h]
theorem l02Index_eq (l : List Cell) (x y : Int) (hl : l.length ≤ 9223372036854775807) : Evt (fun k => spec_l02Index.f k l x y) (ixAt (x, y) 0 l) := by
  unfold spec_l02Index.f
  have h := Evt.up (g := fun k i => spec_l02Index.l0 k l (i : Int) x y) (R := fun i => ixAt (x, y) i (l.drop i)) (n := l.length) ?_ ?_ 0 (Nat.zero_le _)
  · exact h
  · refine Evt.step (fun k => rfl) ?_
    simp only [spec_l02Index.l0]
    refine Evt.ite_neg (by omega) ?_
    rw [List.drop_length]
    exact Evt.pure
  · intro i hi ih
    refine Evt.step (fun k => rfl) ?_
    simp only [spec_l02Index.l0, rd_getD]
    refine Evt.ite_pos (by omega) (Evt.ite_pos (by omega) ?_)
    rw [drop_getD l i z34 hi]
    unfold ixAt
    by_cases hc : (l.getD i z34).f0 = x ∧ (l.getD i z34).f1 = y
    · rw [if_pos hc]
      refine Evt.ite_pos (by rw [hc.1, hc.2]; simp) Evt.pure
    · rw [if_neg hc]
      refine Evt.ite_neg (by simpa using hc) ?_
      rw [wrap_succ hi hl]
      exact ih
end Go.Proofs.Ytlnhjaokcgcdpaa.Pure
end
section
namespace Go.Proofs.Ytlnhjaokcgcdpaa.Pure
open Go.RowKit Go.Proofs.Ytlnhjaokcgcdpaa Go.Proofs.Ytlnhjaokcgcdpaa.Q Go.Proofs.YtlnhjaokcgcdpaaW.PrintWords
set_option linter.unusedVariables false
set_option linter.unusedSimpArgs false
theorem getD_cell (l : List Cell) (i : Nat) : (⟨(l.getD i z34).f0, (l.getD i z34).f1⟩ : Cell) = l.getD i z34 := rfl
def ins (c : Cell) : List Cell → List Cell
  | [] => [c]
  | d :: r => if lessC c d = true then c :: d :: r else d :: ins c r
theorem ins_perm (c : Cell) : ∀ l : List Cell, (ins c l).Perm (c :: l)
  | [] => List.Perm.refl _
  | d :: r => by
    unfold ins
    by_cases h : lessC c d = true
    · rw [if_pos h]
    · rw [if_neg h]
      exact ((ins_perm c r).cons d).trans (List.Perm.swap _ _ _)
theorem ins_len (c : Cell) (l : List Cell) : (ins c l).length = l.length + 1 := (ins_perm c l).length_eq
theorem ins_mem {c d : Cell} {l : List Cell} : d ∈ ins c l ↔ d = c ∨ d ∈ l := by rw [(ins_perm c l).mem_iff, List.mem_cons]
theorem insert_done (l : List Cell) (x y : Int) (hl : l.length ≤ 1000000) : ∀ (i : Nat) (out : List Cell), i ≤ l.length → out.length = i + 1 → Evt (fun k => spec_l02Insert.l0 k l out true (i : Int) x y) (out ++ l.drop i) := by
  refine Evt.upS (g := fun k i out => spec_l02Insert.l0 k l out true (i : Int) x y) (R := fun i out => out ++ l.drop i) (P := fun i out => out.length = i + 1) ?_ ?_
  · intro out _
    refine Evt.step (fun k => rfl) ?_
    simp only [spec_l02Insert.l0]
    refine Evt.ite_neg (by omega) (Evt.ite_pos trivial ?_)
    rw [List.drop_length, List.append_nil]
    exact Evt.pure
  · intro i out hi hp ih
    refine Evt.step (fun k => rfl) ?_
    simp only [spec_l02Insert.l0, rd_getD, getD_cell]
    refine Evt.ite_pos (by omega) (Evt.ite_pos trivial (Evt.ite_pos (by omega) (Evt.ite_pos (by omega) ?_)))
    rw [wrap_succ hi (by omega), drop_getD l i z34 hi]
    have := ih (out ++ [l.getD i z34]) (by simp [hp])
    rw [List.append_assoc] at this
    exact this
theorem l02Insert_eq (l : List Cell) (c : Cell) (hl : l.length ≤ 1000000) : Evt (fun k => spec_l02Insert.f k l c.f0 c.f1) (ins c l) := by
  unfold spec_l02Insert.f
  have h := Evt.upS (g := fun k i out => spec_l02Insert.l0 k l out false (i : Int) c.f0 c.f1) (R := fun i out => out ++ ins c (l.drop i)) (P := fun i out => out.length = i) (n := l.length) ?_ ?_ 0 [] (Nat.zero_le _) rfl
  · exact h
  · intro out hp
    refine Evt.step (fun k => rfl) ?_
    simp only [spec_l02Insert.l0]
    refine Evt.ite_neg (by omega) (Evt.ite_neg (by simp) (Evt.ite_pos (by omega) ?_))
    rw [List.drop_length]
    exact Evt.pure
  · intro i out hi hp ih
    refine Evt.step (fun k => rfl) ?_
    simp only [spec_l02Insert.l0, rd_getD, getD_cell, l02Less_eq, Option.bind_some]
    refine Evt.ite_pos (by omega) (Evt.ite_neg (by simp) (Evt.ite_pos (by omega) ?_))
    rw [drop_getD l i z34 hi, wrap_succ hi (by omega)]
    unfold ins
    by_cases hc : lessC c (l.getD i z34) = true
    · rw [if_pos hc]
      refine Evt.ite_pos hc (Evt.ite_pos (by omega) (Evt.ite_pos (by simp; omega) ?_))
      have := insert_done l c.f0 c.f1 hl (i + 1) ((out ++ [c]) ++ [l.getD i z34]) (by omega) (by simp [hp])
      rw [List.append_assoc, List.append_assoc] at this
      rw [List.append_assoc]
      exact this
    · rw [if_neg hc]
      refine Evt.ite_neg hc (Evt.ite_pos (by omega) ?_)
      have := ih (out ++ [l.getD i z34]) (by simp [hp])
      rw [List.append_assoc] at this
      exact this
end Go.Proofs.Ytlnhjaokcgcdpaa.Pure
end
section
namespace Go.Proofs.Ytlnhjaokcgcdpaa.Pure
open Go.RowKit Go.Proofs.Ytlnhjaokcgcdpaa Go.Proofs.Ytlnhjaokcgcdpaa.Q Go.Proofs.YtlnhjaokcgcdpaaW.PrintWords
set_option linter.unusedVariables false
set_option linter.unusedSimpArgs false
theorem lessC_iff (a b : Cell) : lessC a b = true ↔ (a.f1 < b.f1 ∨ (a.f1 = b.f1 ∧ a.f0 < b.f0)) := by simp [lessC]
theorem cell_ext {a b : Cell} (h0 : a.f0 = b.f0) (h1 : a.f1 = b.f1) : a = b := by cases a; cases b; simp at *; exact ⟨h0, h1⟩
theorem lessC_irr (a : Cell) : ¬ lessC a a = true := by rw [lessC_iff]; omega
theorem lessC_tr {a b c : Cell} (h : lessC a b = true) (h2 : lessC b c = true) : lessC a c = true := by rw [lessC_iff] at *; omega
theorem lessC_tot {a b : Cell} (h : ¬ lessC a b = true) (hne : a ≠ b) : lessC b a = true := by
  rw [lessC_iff] at *
  by_cases h0 : a.f0 = b.f0
  · by_cases h1 : a.f1 = b.f1
    · exact absurd (cell_ext h0 h1) hne
    · omega
  · omega
def Srt (l : List Cell) : Prop := l.Pairwise fun a b => lessC a b = true
theorem srt_ext : ∀ {l m : List Cell}, Srt l → Srt m → (∀ c, c ∈ l ↔ c ∈ m) → l = m
  | [], [], _, _, _ => rfl
  | [], b :: m, _, _, h => absurd ((h b).2 (by simp)) (by simp)
  | a :: l, [], _, _, h => absurd ((h a).1 (by simp)) (by simp)
  | a :: l, b :: m, h1, h2, h => by
    obtain ⟨p1, q1⟩ := List.pairwise_cons.1 h1
    obtain ⟨p2, q2⟩ := List.pairwise_cons.1 h2
    have hab : a = b := by
      rcases List.mem_cons.1 ((h a).1 (by simp)) with e | e
      · exact e
      · rcases List.mem_cons.1 ((h b).2 (by simp)) with e2 | e2
        · exact e2.symm
        · exact absurd (lessC_tr (p1 b e2) (p2 a e)) (lessC_irr a)
    subst hab
    congr 1
    refine srt_ext q1 q2 fun c => ?_
    have hc := h c
    rw [List.mem_cons, List.mem_cons] at hc
    constructor
    · intro hm
      rcases hc.1 (Or.inr hm) with e | e
      · subst e; exact absurd (p1 c hm) (lessC_irr c)
      · exact e
    · intro hm
      rcases hc.2 (Or.inr hm) with e | e
      · subst e; exact absurd (p2 c hm) (lessC_irr c)
      · exact e
theorem ins_srt (c : Cell) : ∀ {l : List Cell}, Srt l → c ∉ l → Srt (ins c l)
  | [], _, _ => by unfold ins Srt; simp
  | d :: r, h, hc => by
    obtain ⟨p, q⟩ := List.pairwise_cons.1 h
    rw [List.mem_cons, not_or] at hc
    unfold ins
    by_cases hl : lessC c d = true
    · rw [if_pos hl]
      refine List.pairwise_cons.2 ⟨fun x hx => ?_, h⟩
      rcases List.mem_cons.1 hx with e | e
      · rw [e]; exact hl
      · exact lessC_tr hl (p x e)
    · rw [if_neg hl]
      refine List.pairwise_cons.2 ⟨fun x hx => ?_, ins_srt c q hc.2⟩
      rcases ins_mem.1 hx with e | e
      · rw [e]; exact lessC_tot hl hc.1
      · exact p x e
theorem memC_iff (l : List Cell) (d : Cell) : memC l d = true ↔ d ∈ l := by
  unfold memC
  rw [List.any_eq_true]
  constructor
  · rintro ⟨c, hc, h⟩
    rw [Bool.and_eq_true, beq_iff_eq, beq_iff_eq] at h
    rw [cell_ext h.1 h.2]
    exact hc
  · intro h
    exact ⟨d, h, by simp⟩
theorem lt_less (a b : Cell) : ltOf cmpC2 a b = lessC a b := by
  rw [cmp_lt, Bool.eq_iff_iff, lessC_iff, decide_eq_true_eq]
theorem sortQ_mem (l : List Cell) (c : Cell) : c ∈ Q.sortC l ↔ c ∈ l := by unfold Q.sortC; exact List.mem_mergeSort
theorem sortQ_srt (l : List Cell) : (Q.sortC l).Pairwise fun a b => ¬ lessC b a = true := by
  unfold Q.sortC
  have h := List.pairwise_mergeSort (le := fun x y : Cell => !(ltOf cmpC2) y x) (fun a b c h1 h2 => by
    simp only [lt_less, Bool.not_eq_true', ← Bool.not_eq_true] at *
    rw [lessC_iff] at *
    omega) (fun a b => by
    simp only [lt_less, Bool.or_eq_true, Bool.not_eq_true', ← Bool.not_eq_true]
    rw [lessC_iff, lessC_iff]
    omega) l
  refine h.imp ?_
  intro a b hab
  simp only [lt_less, Bool.not_eq_true', ← Bool.not_eq_true] at hab
  exact hab
theorem eqC_iff (a b : Cell) : eqC a b = true ↔ a = b := by
  unfold eqC
  rw [Bool.and_eq_true, beq_iff_eq, beq_iff_eq]
  exact ⟨fun h => cell_ext h.1 h.2, fun h => by rw [h]; exact ⟨rfl, rfl⟩⟩
theorem cmpN_srt {xs : List Cell} (hs : xs.Pairwise fun a b => ¬ lessC b a = true) : ∀ m, m ≤ xs.length → Srt (cmpN xs m) ∧ ∀ c, c ∈ cmpN xs m ↔ c ∈ xs.take m
  | 0, _ => ⟨by unfold cmpN Srt; exact List.Pairwise.nil, fun c => by simp [cmpN]⟩
  | m + 1, hm => by
    obtain ⟨h1, h2⟩ := cmpN_srt hs m (by omega)
    have ht : xs.take (m + 1) = xs.take m ++ [xs[m]] := by
      rw [List.take_add_one, List.getElem?_eq_getElem (by omega)]
      rfl
    unfold cmpN
    rw [rdC xs m (by omega)]
    by_cases hc : 0 < m ∧ eqC xs[m] (rd_T34 xs ((m - 1 : Nat) : Int)) = true
    · rw [if_pos hc, List.append_nil, ht]
      refine ⟨h1, fun c => ?_⟩
      rw [h2, List.mem_append]
      refine ⟨Or.inl, fun h => ?_⟩
      rcases h with h | h
      · exact h
      · have e := (eqC_iff _ _).1 hc.2
        rw [rdC xs (m - 1) (by omega)] at e
        rw [List.mem_singleton.1 h, e]
        exact List.mem_take_iff_getElem.2 ⟨m - 1, by omega, rfl⟩
    · rw [if_neg hc, ht]
      refine ⟨List.pairwise_append.2 ⟨h1, by simp, fun a ha b hb => ?_⟩, fun c => by rw [List.mem_append, List.mem_append, h2]⟩
      rw [List.mem_singleton.1 hb]
      obtain ⟨j, hj, e⟩ := List.mem_take_iff_getElem.1 ((h2 a).1 ha)
      have hjm : j < m := by omega
      have hne : xs[m] ≠ xs[m - 1] := fun e2 => hc ⟨by omega, by rw [rdC xs (m - 1) (by omega)]; exact (eqC_iff _ _).2 e2⟩
      have hpw := List.pairwise_iff_getElem.1 hs
      have g1 : lessC xs[m - 1] xs[m] = true := lessC_tot (hpw (m - 1) m (by omega) (by omega) (by omega)) hne
      rw [← e]
      by_cases hj2 : j = m - 1
      · subst hj2; exact g1
      · have g2 := hpw j (m - 1) (by omega) (by omega) (by omega)
        rw [lessC_iff] at g1 g2 ⊢
        omega
end Go.Proofs.Ytlnhjaokcgcdpaa.Pure
end
section
namespace Go.Proofs.Ytlnhjaokcgcdpaa.Pure
open Go.RowKit Go.Proofs.Ytlnhjaokcgcdpaa Go.Proofs.Ytlnhjaokcgcdpaa.Q Go.Proofs.YtlnhjaokcgcdpaaW.PrintWords
set_option linter.unusedVariables false
set_option linter.unusedSimpArgs false
def nine (c : Cell) : List Cell := [⟨c.f0 - 1, c.f1 - 1⟩, ⟨c.f0, c.f1 - 1⟩, ⟨c.f0 + 1, c.f1 - 1⟩, ⟨c.f0 - 1, c.f1⟩, ⟨c.f0, c.f1⟩, ⟨c.f0 + 1, c.f1⟩, ⟨c.f0 - 1, c.f1 + 1⟩, ⟨c.f0, c.f1 + 1⟩, ⟨c.f0 + 1, c.f1 + 1⟩]
def rstep (l out : List Cell) (c : Cell) : List Cell := if memC l c = true then out else if memC out c = true then out else ins c out
def ringR (l : List Cell) (m out : List Cell) : List Cell := m.foldl (fun o c => (nine c).foldl (rstep l) o) out
theorem rstep_len (l out : List Cell) (c : Cell) : (rstep l out c).length ≤ out.length + 1 := by
  unfold rstep
  split
  · omega
  · split
    · omega
    · rw [ins_len]; omega
theorem rstep_mem (l out : List Cell) (c x : Cell) : x ∈ rstep l out c ↔ x ∈ out ∨ (x = c ∧ x ∉ l) := by
  unfold rstep
  by_cases h1 : memC l c = true
  · rw [if_pos h1]
    rw [memC_iff] at h1
    exact ⟨Or.inl, fun h => h.elim id fun h => absurd (h.1 ▸ h1) h.2⟩
  · rw [if_neg h1]
    rw [memC_iff] at h1
    by_cases h2 : memC out c = true
    · rw [if_pos h2]
      rw [memC_iff] at h2
      exact ⟨Or.inl, fun h => h.elim id fun h => h.1 ▸ h2⟩
    · rw [if_neg h2, ins_mem]
      constructor
      · rintro (e | e)
        · exact Or.inr ⟨e, e ▸ h1⟩
        · exact Or.inl e
      · rintro (e | e)
        · exact Or.inr e
        · exact Or.inl e.1
theorem rstep_srt (l : List Cell) {out : List Cell} (c : Cell) (h : Srt out) : Srt (rstep l out c) := by
  unfold rstep
  split
  · exact h
  · split
    · exact h
    · rename_i h2
      exact ins_srt c h (fun hc => h2 ((memC_iff _ _).2 hc))
theorem rfold (l : List Cell) : ∀ (cs out : List Cell), Srt out → Srt (cs.foldl (rstep l) out) ∧ (cs.foldl (rstep l) out).length ≤ out.length + cs.length ∧ ∀ x, x ∈ cs.foldl (rstep l) out ↔ x ∈ out ∨ (x ∈ cs ∧ x ∉ l)
  | [], out, h => ⟨h, by simp, fun x => by simp⟩
  | c :: r, out, h => by
    obtain ⟨h1, h2, h3⟩ := rfold l r (rstep l out c) (rstep_srt l c h)
    have h4 := rstep_len l out c
    refine ⟨h1, by rw [List.foldl_cons, List.length_cons]; omega, fun x => ?_⟩
    rw [List.foldl_cons, h3, rstep_mem, List.mem_cons]
    constructor
    · rintro ((a | a) | a)
      · exact Or.inl a
      · exact Or.inr ⟨Or.inl a.1, a.2⟩
      · exact Or.inr ⟨Or.inr a.1, a.2⟩
    · rintro (a | ⟨a | a, b⟩)
      · exact Or.inl (Or.inl a)
      · exact Or.inl (Or.inr ⟨a, b⟩)
      · exact Or.inr ⟨a, b⟩
theorem ringR_all (l : List Cell) : ∀ (m out : List Cell), Srt out → Srt (ringR l m out) ∧ (ringR l m out).length ≤ out.length + 9 * m.length ∧ ∀ x, x ∈ ringR l m out ↔ x ∈ out ∨ ∃ c ∈ m, x ∈ nine c ∧ x ∉ l
  | [], out, h => ⟨h, by simp [ringR], fun x => by simp [ringR]⟩
  | c :: r, out, h => by
    obtain ⟨h1, h2, h3⟩ := rfold l (nine c) out h
    obtain ⟨g1, g2, g3⟩ := ringR_all l r _ h1
    have h9 : (nine c).length = 9 := rfl
    refine ⟨g1, ?_, fun x => ?_⟩
    · have e : ringR l (c :: r) out = ringR l r ((nine c).foldl (rstep l) out) := rfl
      rw [e, List.length_cons]
      omega
    · have e : ringR l (c :: r) out = ringR l r ((nine c).foldl (rstep l) out) := rfl
      rw [e, g3, h3]
      simp only [List.mem_cons, exists_eq_or_imp, or_assoc]
theorem tm9 : ∀ j < 9, wrap64 (Int.tdiv ((j : Nat) : Int) 3) = ((j / 3 : Nat) : Int) ∧ Int.tmod ((j : Nat) : Int) 3 = ((j % 3 : Nat) : Int) := by decide +kernel
theorem nine_at (c : Cell) (hb : (-1000000 ≤ c.f0 ∧ c.f0 ≤ 1000000) ∧ -1000000 ≤ c.f1 ∧ c.f1 ≤ 1000000) (j : Nat) (hj : j < 9) :
    wrap64 (wrap64 (c.f0 + Int.tmod (j : Int) 3) - 1) = ((nine c).getD j z34).f0 ∧ wrap64 (wrap64 (c.f1 + wrap64 (Int.tdiv (j : Int) 3)) - 1) = ((nine c).getD j z34).f1 := by
  rw [(tm9 j hj).1, (tm9 j hj).2, w64 (n := c.f0 + _) (by omega) (by omega), w64 (n := c.f0 + _ - 1) (by omega) (by omega), w64 (n := c.f1 + _) (by omega) (by omega), w64 (n := c.f1 + _ - 1) (by omega) (by omega)]
  clear hb
  obtain ⟨x, y⟩ := c
  match j, hj with
  | 0, _ => exact ⟨by simp [nine], by simp [nine]⟩
  | 1, _ => exact ⟨by simp [nine] <;> omega, by simp [nine] <;> omega⟩
  | 2, _ => exact ⟨by simp [nine] <;> omega, by simp [nine] <;> omega⟩
  | 3, _ => exact ⟨by simp [nine] <;> omega, by simp [nine] <;> omega⟩
  | 4, _ => exact ⟨by simp [nine] <;> omega, by simp [nine] <;> omega⟩
  | 5, _ => exact ⟨by simp [nine] <;> omega, by simp [nine] <;> omega⟩
  | 6, _ => exact ⟨by simp [nine] <;> omega, by simp [nine] <;> omega⟩
  | 7, _ => exact ⟨by simp [nine] <;> omega, by simp [nine] <;> omega⟩
  | 8, _ => exact ⟨by simp [nine] <;> omega, by simp [nine] <;> omega⟩
theorem l26Ring_eq (l : List Cell) (hl : l.length ≤ 1000) (hb : ∀ c ∈ l, (-1000000 ≤ c.f0 ∧ c.f0 ≤ 1000000) ∧ -1000000 ≤ c.f1 ∧ c.f1 ≤ 1000000) : Evt (fun k => spec_l26Ring.f k l) (ringR l l []) := by
  unfold spec_l26Ring.f
  have key := Evt.upS (g := fun k i out => spec_l26Ring.l0 k l out (i : Int)) (R := fun i out => ringR l (l.drop i) out) (P := fun i out => out.length ≤ 9 * i) (n := l.length) ?_ ?_ 0 [] (Nat.zero_le _) (by simp)
  · simpa using key
  · intro out _
    refine Evt.step (fun k => rfl) ?_
    simp only [spec_l26Ring.l0]
    rw [List.drop_length]
    exact Evt.ite_neg (by omega) Evt.pure
  · intro i out hi hp ih
    refine Evt.step (fun k => rfl) ?_
    simp only [spec_l26Ring.l0]
    refine Evt.ite_pos (by omega) ?_
    have hm : l.getD i z34 ∈ l := by rw [List.getD_eq_getElem?_getD, List.getElem?_eq_getElem hi]; exact List.getElem_mem hi
    have hcb := hb _ hm
    rw [drop_getD l i z34 hi]
    have hin : ringR l (l.getD i z34 :: l.drop (i + 1)) out = ringR l (l.drop (i + 1)) (((nine (l.getD i z34)).drop 0).foldl (rstep l) out) := rfl
    rw [hin]
    have hrd : rd_T34 l (i : Int) = l.getD i z34 := rd_getD l i
    generalize l.getD i z34 = c at hcb hrd
    refine Evt.upS (g := fun k j o => spec_l26Ring.l1 k l o (i : Int) (j : Int)) (R := fun j o => ringR l (l.drop (i + 1)) (((nine c).drop j).foldl (rstep l) o)) (P := fun j o => o.length ≤ 9 * i + j) (n := 9) ?_ ?_ 0 out (Nat.zero_le _) (by omega)
    · intro o ho
      refine Evt.step (fun k => rfl) ?_
      simp only [spec_l26Ring.l1]
      refine Evt.ite_neg (by omega) ?_
      rw [wrap_succ hi (by omega)]
      exact ih o (by omega)
    · intro j o hj ho ihj
      refine Evt.step (fun k => rfl) ?_
      obtain ⟨e0, e1⟩ := nine_at c hcb j hj
      simp only [spec_l26Ring.l1, hrd, e0, e1]
      refine Evt.ite_pos (by omega) (Evt.ite_pos (by omega) (Evt.ite_pos (by omega) ?_))
      rw [drop_getD (nine c) j z34 hj, List.foldl_cons]
      generalize (nine c).getD j z34 = d
      rw [wrap_succ hj (by omega)]
      have hcc : cc (d.f0, d.f1) = d := rfl
      have hlen := rstep_len l o d
      have ihs := ihj (rstep l o d) (by omega)
      refine (l02Index_eq l d.f0 d.f1 (by omega)).bind ?_
      have m1 := ixAt_mem (d.f0, d.f1) l 0
      rw [hcc] at m1
      by_cases h1 : d ∈ l
      · refine Evt.ite_neg (by have := m1.2 h1; omega) ?_
        have e : rstep l o d = o := by unfold rstep; rw [if_pos ((memC_iff _ _).2 h1)]
        rw [e] at ihs ⊢
        exact ihs
      · refine Evt.ite_pos (Int.not_le.1 fun h => h1 (m1.1 h)) ?_
        have hn1 : ¬ memC l d = true := fun h => h1 ((memC_iff _ _).1 h)
        refine (l02Index_eq o d.f0 d.f1 (by omega)).bind ?_
        have m2 := ixAt_mem (d.f0, d.f1) o 0
        rw [hcc] at m2
        by_cases h2 : d ∈ o
        · refine Evt.ite_neg (by have := m2.2 h2; omega) ?_
          have e : rstep l o d = o := by unfold rstep; rw [if_neg hn1, if_pos ((memC_iff _ _).2 h2)]
          rw [e] at ihs ⊢
          exact ihs
        · refine Evt.ite_pos (Int.not_le.1 fun h => h2 (m2.1 h)) ?_
          have hn2 : ¬ memC o d = true := fun h => h2 ((memC_iff _ _).1 h)
          have e : rstep l o d = ins d o := by unfold rstep; rw [if_neg hn1, if_neg hn2]
          rw [e] at ihs ⊢
          exact (l02Insert_eq o d (by omega)).bind ihs
theorem ring_same (l : List Cell) : besC l = ringR l l [] := by
  obtain ⟨h1, _, h3⟩ := ringR_all l l [] List.Pairwise.nil
  have hq := cmpN_srt (sortQ_srt (rawC l l)) (Q.sortC (rawC l l)).length (Nat.le_refl _)
  refine srt_ext hq.1 h1 fun x => ?_
  unfold besC
  rw [hq.2, List.take_length, sortQ_mem, h3]
  unfold rawC
  rw [List.mem_flatMap]
  simp only [List.not_mem_nil, false_or]
  refine exists_congr fun c => and_congr_right fun hc => ?_
  unfold sideC
  rw [List.mem_filter]
  have hx : (!memC l x) = true ↔ x ∉ l := by rw [Bool.not_eq_true', ← Bool.not_eq_true, memC_iff]
  rw [hx]
  refine and_congr_left fun hxl => ?_
  have hne : x ≠ c := fun e => hxl (e ▸ hc)
  unfold nine corn
  simp only [List.mem_cons, List.not_mem_nil, or_false]
  have hc5 : (⟨c.f0, c.f1⟩ : Cell) = c := rfl
  rw [hc5]
  simp only [hne, false_or]
end Go.Proofs.Ytlnhjaokcgcdpaa.Pure
end
section
namespace Go.Proofs.Ytlnhjaokcgcdpaa.Pure
open Go.RowKit Go.Proofs.Ytlnhjaokcgcdpaa Go.Proofs.Ytlnhjaokcgcdpaa.Q Go.Proofs.YtlnhjaokcgcdpaaW.PrintWords
set_option linter.unusedVariables false
set_option linter.unusedSimpArgs false
theorem mgd_at {α : Type} (A r : List α) (v z : α) (i : Nat) (h : A.length = i) : (A ++ v :: r).getD i z = v := by
  simp [List.getD_eq_getElem?_getD, List.getElem?_append_right (Nat.le_of_eq h), h]
theorem mset_at {α : Type} (A r : List α) (v u : α) (i : Nat) (h : A.length = i) : (A ++ v :: r).set i u = A ++ u :: r := by
  rw [List.set_append_right _ _ (Nat.le_of_eq h), h, Nat.sub_self, List.set_cons_zero]
def runP (a : Int) (i : Nat) : List Cell := (List.range i).map fun (j : Nat) => ⟨a + 2 * (j : Int), a + 2 * (j : Int) + 1⟩
theorem runP_len (a : Int) (i : Nat) : (runP a i).length = i := by simp [runP]
theorem runP_succ (a : Int) (i : Nat) : runP a (i + 1) = runP a i ++ [⟨a + 2 * (i : Int), a + 2 * (i : Int) + 1⟩] := by simp [runP, List.range_succ]
theorem runP_at (a : Int) {n i : Nat} (h : i < n) : (runP a n).getD i z34 = ⟨a + 2 * (i : Int), a + 2 * (i : Int) + 1⟩ := by
  rw [List.getD_eq_getElem?_getD, List.getElem?_eq_getElem (by rw [runP_len]; exact h)]
  simp [runP]
theorem markP_eq (l : List Cell) (a : Int) (h0 : 0 ≤ a) (hb : a + 2 * l.length ≤ 4611686018427387904) : Evt (fun k => laws_markCellS.f k l a) (a + 2 * l.length, runP a l.length) := by
  unfold laws_markCellS.f
  have key := Evt.upS (g := fun k i s => laws_markCellS.l0 k s (a + 2 * (i : Int)) (i : Int)) (R := fun _ _ => (a + 2 * (l.length : Int), runP a l.length)) (P := fun i s => s = runP a i ++ l.drop i) (n := l.length) ?_ ?_ 0 l (Nat.zero_le _) (by simp [runP])
  · simpa using key
  · rintro s rfl
    refine Evt.step (fun k => rfl) ?_
    simp only [laws_markCellS.l0]
    rw [List.drop_length, List.append_nil]
    exact Evt.ite_neg (by rw [runP_len]; omega) Evt.pure
  · rintro i s hi rfl ih
    refine Evt.step (fun k => rfl) ?_
    have e1 : wrap64 (a + 2 * (i : Int) + 1) = a + 2 * (i : Int) + 1 := by unfold wrap64; omega
    have e3 : wrap64 (a + 2 * (i : Int) + 1 + 1) = a + 2 * ((i + 1 : Nat) : Int) := by unfold wrap64; omega
    simp only [laws_markCellS.l0, Option.bind_some, e1, e3]
    refine Evt.ite_pos (by rw [List.length_append, runP_len, List.length_drop]; omega) (Evt.ite_pos (by omega) ?_)
    rw [wrap_succ hi (by omega), drop_getD l i z34 hi]
    simp only [Int.toNat_natCast, rd_getD, mset_at _ _ _ _ _ (runP_len a i), mgd_at _ _ _ _ _ (runP_len a i)]
    exact ih _ (by rw [runP_succ, List.append_assoc]; rfl)
theorem heldP_eq (n : Nat) (a : Int) (h0 : 0 ≤ a) (hb : a + 2 * n ≤ 4611686018427387904) : Evt (fun k => laws_heldCellS.f k (runP a n) a) (a + 2 * n) := by
  unfold laws_heldCellS.f
  have key := Evt.up (g := fun k i => laws_heldCellS.l0 k (runP a n) (a + 2 * (i : Int)) (i : Int)) (R := fun _ => a + 2 * (n : Int)) (n := n) ?_ ?_ 0 (Nat.zero_le _)
  · simpa using key
  · refine Evt.step (fun k => rfl) ?_
    simp only [laws_heldCellS.l0]
    exact Evt.ite_neg (by rw [runP_len]; omega) Evt.pure
  · intro i hi ih
    refine Evt.step (fun k => rfl) ?_
    have e1 : wrap64 (a + 2 * (i : Int) + 1) = a + 2 * (i : Int) + 1 := by unfold wrap64; omega
    have e3 : wrap64 (a + 2 * (i : Int) + 1 + 1) = a + 2 * ((i + 1 : Nat) : Int) := by unfold wrap64; omega
    simp only [laws_heldCellS.l0, rd_getD, runP_at a hi, e1, e3]
    refine Evt.ite_pos (by rw [runP_len]; omega) (Evt.ite_pos (by omega) (Evt.ite_pos (by simp) (Evt.ite_pos (by simp) ?_)))
    rw [wrap_succ hi (by omega)]
    exact ih
end Go.Proofs.Ytlnhjaokcgcdpaa.Pure
end
section
namespace Go.Proofs.Ytlnhjaokcgcdpaa.Pure
open Go.RowKit Go.Proofs.Ytlnhjaokcgcdpaa Go.Proofs.Ytlnhjaokcgcdpaa.Q Go.Proofs.YtlnhjaokcgcdpaaW.PrintWords
set_option linter.unusedVariables false
set_option linter.unusedSimpArgs false
theorem isCoordinate_eq (x : Int) : impl_isCoordinate.f x = some (Co x) := by
  unfold impl_isCoordinate.f
  rw [within_eq]
  rfl
theorem isNaN_eq (x : Int) : cmp_isNaN_int64.f x = some false := by
  unfold cmp_isNaN_int64.f
  simp
def cmpI (a b : Int) : Int := if a < b then -1 else if a > b then 1 else 0
theorem Compare_eq (a b : Int) : cmp_Compare_int64.f a b = some (cmpI a b) := by
  unfold cmp_Compare_int64.f cmpI
  rw [isNaN_eq, isNaN_eq]
  simp only [Option.bind_some]
  by_cases h1 : a < b
  · simp [h1]
  · by_cases h2 : a > b
    · simp [h1, h2]
    · simp [h1, h2]
def cmpC (a b : Cell) : Int := if cmpI a.f1 b.f1 = 0 then cmpI a.f0 b.f0 else cmpI a.f1 b.f1
theorem compareCells_eq (a b : Cell) : impl_compareCells.f a.f0 a.f1 b.f0 b.f1 = some (cmpC a b) := by
  unfold impl_compareCells.f cmpC
  rw [Compare_eq, Compare_eq]
  simp only [Option.bind_some]
  by_cases h : cmpI a.f1 b.f1 = 0
  · rw [if_pos h, if_pos h]
  · rw [if_neg h, if_neg h]
theorem cmpC_less (a b : Cell) : cmpC a b < 0 ↔ lessC a b = true := by
  unfold cmpC cmpI lessC
  repeat (split)
  all_goals (simp; omega)
theorem impl_IsShape_eq (l : List Cell) (hl : l.length ≤ 9223372036854775807) : Evt (fun k => impl_IsShape.f k l) (Sh l) := by
  unfold impl_IsShape.f
  refine Evt.up (g := fun k i => impl_IsShape.l0 k l l (l.length : Int) (i : Int)) (R := fun i => allF (shOk l) l.length i && decide (1 ≤ l.length ∧ l.length ≤ 40)) (n := l.length) ?_ ?_ 0 (Nat.zero_le _)
  · refine Evt.step (fun k => rfl) ?_
    simp only [impl_IsShape.l0]
    refine Evt.ite_neg (by omega) ?_
    rw [allF_end]
    by_cases h1 : (l.length : Int) ≥ 1
    · refine Evt.ite_pos h1 (Evt.const ?_)
      rw [Bool.true_and]
      congr 1
      exact decide_eq_decide.2 (by omega)
    · refine Evt.ite_neg h1 (Evt.const ?_)
      simp
      omega
  · intro i hi ih
    refine Evt.step (fun k => rfl) ?_
    simp only [impl_IsShape.l0, isCoordinate_eq, Option.bind_some]
    refine Evt.ite_pos (by omega) (Evt.ite_pos (by omega) (Evt.ite_pos (by omega) ?_))
    rw [allF_succ _ hi]
    simp only [rd_getD]
    by_cases hc0 : Co (l.getD i z34).f0 = true
    · refine Evt.ite_pos hc0 ?_
      by_cases hc1 : Co (l.getD i z34).f1 = true
      · refine Evt.ite_pos hc1 ?_
        by_cases h0 : i = 0
        · subst h0
          refine Evt.ite_neg (by omega) ?_
          rw [wrap_succ hi hl]
          have e : shOk l 0 = true := by unfold shOk; rw [hc0, hc1]; rfl
          rw [e, Bool.true_and]
          exact ih
        · refine Evt.ite_pos (by omega) ?_
          have ew : wrap64 ((i : Int) - 1) = ((i - 1 : Nat) : Int) := by rw [w64 (by omega) (by omega)]; omega
          simp only [ew, rd_getD, compareCells_eq, Option.bind_some]
          refine Evt.ite_pos (by omega) (Evt.ite_pos (by omega) ?_)
          rw [wrap_succ hi hl]
          have hiff := cmpC_less (l.getD (i - 1) z34) (l.getD i z34)
          by_cases hls : lessC (l.getD (i - 1) z34) (l.getD i z34) = true
          · refine Evt.ite_neg (by have := hiff.2 hls; omega) ?_
            have e : shOk l i = true := by unfold shOk; rw [hc0, hc1, hls]; simp
            rw [e, Bool.true_and]
            exact ih
          · refine Evt.ite_pos (by rcases Int.lt_or_le (cmpC (l.getD (i - 1) z34) (l.getD i z34)) 0 with h | h; exact absurd (hiff.1 h) hls; exact h) ?_
            have e : shOk l i = false := by unfold shOk; rw [hc0, hc1, Bool.eq_false_iff.mpr hls]; simp [h0]
            rw [e]
            exact Evt.pure
      · refine Evt.ite_neg hc1 ?_
        have e : shOk l i = false := by unfold shOk; rw [Bool.eq_false_iff.mpr hc1]; simp
        rw [e]
        exact Evt.pure
    · refine Evt.ite_neg hc0 ?_
      have e : shOk l i = false := by unfold shOk; rw [Bool.eq_false_iff.mpr hc0]; rfl
      rw [e]
      exact Evt.pure
end Go.Proofs.Ytlnhjaokcgcdpaa.Pure
end
section
namespace Go.Proofs.Ytlnhjaokcgcdpaa.Pure
open Go.RowKit Go.Proofs.Ytlnhjaokcgcdpaa Go.Proofs.Ytlnhjaokcgcdpaa.Q Go.Proofs.YtlnhjaokcgcdpaaW.PrintWords
set_option linter.unusedVariables false
set_option linter.unusedSimpArgs false
abbrev LCell := S36
theorem rdL (l : List LCell) (i : Nat) (h : i < l.length) : rd_T36 l (i : Int) = l[i] := by
  simp [rd_T36, List.getD_eq_getElem?_getD, List.getElem?_eq_getElem h]
def toC (c : LCell) : Cell := ⟨c.f0, c.f1⟩
def toCs (l : List LCell) : List Cell := l.map toC
theorem toCs_len (l : List LCell) : (toCs l).length = l.length := by simp [toCs]
theorem szCellS_eq (l : List LCell) (h : l.length ≤ maxLen) : laws_szCellS.f l 1048576 = some (if l.length ≤ 1048576 then 1048576 - (l.length : Int) else -1) := by
  unfold maxLen at h
  unfold laws_szCellS.f
  rw [w64 (by omega) (by omega)]
  by_cases hl : l.length ≤ 1048576
  · rw [if_neg (by omega), if_pos hl]
  · rw [if_pos (by omega), if_neg hl]
theorem toCellS_loop (l : List LCell) (hl : l.length ≤ 1048576) : ∀ (i : Nat) (acc : List Cell), i ≤ l.length → (acc.length = l.length ∧ acc.take i = (toCs l).take i) → Evt (fun k => laws_toCellS.l0 k l acc (i : Int)) (toCs l) := by
  refine Evt.upS (R := fun _ _ => toCs l) ?_ ?_
  · rintro acc ⟨h1, h2⟩
    refine Evt.step (fun k => rfl) ?_
    simp only [laws_toCellS.l0]
    refine Evt.ite_neg (by omega) ?_
    rw [List.take_of_length_le (by omega), List.take_of_length_le (by rw [toCs_len]; omega)] at h2
    rw [h2]
    exact Evt.pure
  · rintro i acc hi ⟨h1, h2⟩ ih
    refine Evt.step (fun k => rfl) ?_
    simp only [laws_toCellS.l0, laws_toCell.f, Option.bind_some]
    refine Evt.ite_pos (by omega) (Evt.ite_pos (by omega) (Evt.ite_pos (by omega) ?_))
    rw [wrap_succ hi (by omega), Int.toNat_natCast]
    refine ih _ ⟨by simpa using h1, ?_⟩
    rw [rdL l i hi]
    apply List.ext_getElem?
    intro j
    have h3 := congrArg (fun z => z[j]?) h2
    simp only [List.getElem?_take] at h3 ⊢
    by_cases hj : j < i
    · rw [if_pos (by omega)] at h3 ⊢
      rw [if_pos (by omega)] at h3 ⊢
      rw [List.getElem?_set_ne (by omega)]
      exact h3
    · by_cases hj2 : j = i
      · subst hj2
        rw [if_pos (by omega), if_pos (by omega), List.getElem?_set_self (by omega)]
        simp [toCs, toC, List.getElem?_eq_getElem hi]
      · rw [if_neg (by omega), if_neg (by omega)]
theorem toCellS_eq (l : List LCell) (hl : l.length ≤ 1048576) : Evt (fun k => laws_toCellS.f k l) (toCs l) := by
  unfold laws_toCellS.f
  refine Evt.ite_pos (by omega) (Evt.ite_pos (by omega) ?_)
  exact toCellS_loop l hl 0 _ (Nat.zero_le _) ⟨by simp, by simp⟩
theorem eqCellS_refl (l : List Cell) (hl : l.length ≤ 9223372036854775807) : Evt (fun k => laws_eqCellS.f k l l) true := by
  unfold laws_eqCellS.f
  refine Evt.ite_pos rfl ?_
  refine Evt.up (g := fun k i => laws_eqCellS.l0 k l l (i : Int)) (R := fun _ => true) (n := l.length) ?_ ?_ 0 (Nat.zero_le _)
  · refine Evt.step (fun k => rfl) ?_
    simp only [laws_eqCellS.l0]
    exact Evt.ite_neg (by omega) Evt.pure
  · intro i hi ih
    refine Evt.step (fun k => rfl) ?_
    simp only [laws_eqCellS.l0, laws_eqCell.f, if_true, Option.bind_some]
    refine Evt.ite_pos (by omega) (Evt.ite_pos (by omega) (Evt.ite_pos (by omega) ?_))
    rw [wrap_succ hi hl]
    exact ih
end Go.Proofs.Ytlnhjaokcgcdpaa.Pure
end
section
namespace Go.Proofs.Ytlnhjaokcgcdpaa.Pure
open Go.RowKit Go.Proofs.Ytlnhjaokcgcdpaa Go.Proofs.Ytlnhjaokcgcdpaa.Q Go.Proofs.Ytlnhjaokcgcdpaa.UFnExactRingOf Go.Proofs.YtlnhjaokcgcdpaaW.PrintWords
set_option linter.unusedVariables false
set_option linter.unusedSimpArgs false
def ringOf (l : List Cell) : List Cell × Int := if Sh l = true then (ringR l l [], 0) else ([], 1)
theorem ringOf_len (l : List Cell) : (ringOf l).1.length ≤ 360 := by
  unfold ringOf
  by_cases h : Sh l = true
  · rw [if_pos h]
    have h1 := (ringR_all l l [] List.Pairwise.nil).2.1
    have h2 := Sh_len h
    simp only [List.length_nil] at h1
    simp only
    omega
  · rw [if_neg h]
    simp
theorem spec_ring (l : List Cell) (hl : l.length ≤ 1048576) : Evt (fun k => spec_RingOf.f k l) (ringOf l) := by
  unfold spec_RingOf.f ringOf
  refine (spec_IsShape_eq l (by omega)).bind ?_
  by_cases h : Sh l = true
  · rw [if_pos h]
    refine Evt.ite_pos h ((l26Ring_eq l (by have := Sh_len h; omega) (fun c hc => by have := Sh_co h c hc; omega)).bind Evt.pure)
  · rw [if_neg h]
    exact Evt.ite_neg h Evt.pure
theorem impl_ring (l : List Cell) (hl : l.length ≤ 1048576) : Evt (fun k => impl_RingOf.f k l) (ringOf l) := by
  unfold impl_RingOf.f ringOf
  refine (impl_IsShape_eq l (by omega)).bind ?_
  by_cases h : Sh l = true
  · simp only [if_pos h]
    have ho : okC l = true := by
      unfold okC
      rw [Bool.and_eq_true, List.all_eq_true]
      refine ⟨decide_eq_true (by have := Sh_len h; omega), fun c hc => decide_eq_true (by have := Sh_co h c hc; omega)⟩
    rw [← ring_same]
    exact Evt.ite_pos ho Evt.pure
  · simp only [if_neg h]
    exact Evt.pure
theorem FnExactRingOf : laws_FnExactRingOf_Pure := by
  intro l hl
  apply Evt.out
  unfold laws_FnExactRingOf.f
  rw [szCellS_eq l hl.1]
  simp only [Option.bind_some]
  by_cases hb : l.length ≤ 1048576
  · rw [if_pos hb]
    refine Evt.ite_neg (by omega) ?_
    have hc := toCellS_eq l hb
    have hlen : (toCs l).length ≤ 1048576 := by rw [toCs_len]; exact hb
    have h1 := spec_ring (toCs l) hlen
    have h2 := impl_ring (toCs l) hlen
    have h3 := ringOf_len (toCs l)
    generalize ringOf (toCs l) = R at h1 h2 h3
    have he := eqCellS_refl R.1 (by omega)
    have hm := markP_eq R.1 1 (by omega) (by omega)
    have hh := heldP_eq R.1.length 1 (by omega) (by omega)
    refine hc.bind (h1.bind (hc.bind (h2.bind (he.bind (Evt.ite_pos rfl ?_)))))
    refine Evt.step (fun k => rfl) ?_
    simp only [laws_FnExactRingOf.j0]
    refine Evt.ite_neg (by simp) (hc.bind ((eqCellS_refl (toCs l) (by omega)).bind (Evt.ite_pos rfl ((markP_eq (toCs l) 1 (by omega) (by omega)).bind (Evt.ite_neg (by simp only; omega) (he.bind (Evt.ite_pos rfl ?_)))))))
    refine Evt.step (fun k => rfl) ?_
    simp only [laws_FnExactRingOf.j1]
    refine Evt.ite_neg (by simp) (hm.bind (hh.bind (Evt.ite_neg (by omega) (Evt.ite_pos rfl (hc.bind (h2.bind (he.bind (Evt.ite_pos rfl ?_))))))))
    refine Evt.step (fun k => rfl) ?_
    simp only [laws_FnExactRingOf.j2]
    exact Evt.ite_neg (by simp) (hh.bind (Evt.ite_neg (by omega) (Evt.ite_pos rfl Evt.pure)))
  · rw [if_neg hb]
    exact Evt.ite_pos (by omega) Evt.pure
end Go.Proofs.Ytlnhjaokcgcdpaa.Pure
end
