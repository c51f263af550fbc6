/- The pure side of the law FnExactBoundaryWord: parts of this session, put into one text by merge.py. -/
import Derived.Test.YtgfpmgmelhbkoaaQ0
import Derived.Test.YtgfpmgmelhbkoaaOpn
import Derived.Test.YtgfpmgmelhbkoaaQ2
import Derived.Test.YtgfpmgmelhbkoaaQ11
import Derived.Test.YtgfpmgmelhbkoaaQ3
import Derived.Test.YtgfpmgmelhbkoaaQ4
import Derived.Test.YtgfpmgmelhbkoaaQ5
import Derived.Test.YtgfpmgmelhbkoaaQ10
import Derived.Test.YtgfpmgmelhbkoaaQGimplparts
import Derived.Test.YtgfpmgmelhbkoaaQ12
import Derived.Test.YtgfpmgmelhbkoaaQ6
import Derived.Test.YtgfpmgmelhbkoaaQ7
import Derived.Test.YtgfpmgmelhbkoaaQ8
import Derived.Test.YtgfpmgmelhbkoaaQ13
import Derived.Test.YtgfpmgmelhbkoaaQGimplmoved
import Derived.Test.YtgfpmgmelhbkoaaQ14
import Derived.Test.YtgfpmgmelhbkoaaQ15
import Derived.Test.YtgfpmgmelhbkoaaQ9
import Derived.Test.YtgfpmgmelhbkoaaQGimplholes
import Derived.Test.YtgfpmgmelhbkoaaQGimplIsConnected
import Derived.Test.YtgfpmgmelhbkoaaQGimplIsPlain
import Derived.Test.YtgfpmgmelhbkoaaQ18
import Derived.Test.YtgfpmgmelhbkoaaQ19
import Derived.Test.YtgfpmgmelhbkoaaQGimplboundaryWord
import Derived.Test.YtgfpmgmelhbkoaaQ20
import Derived.Test.YtgfpmgmelhbkoaaQ16
import Derived.Test.YtgfpmgmelhbkoaaQ21
import Derived.Test.YtgfpmgmelhbkoaaUFnExactBoundaryWord
section
namespace Go.Proofs.Ytgfpmgmelhbkoaa.Pure
open Go.RowKit
set_option linter.unusedVariables false
set_option linter.unusedSimpArgs false
def Evt {α : Type} (g : Nat → Option α) (r : α) : Prop := ∃ K, ∀ k, K ≤ k → g k = some r
theorem Evt.out {α : Type} {g : Nat → Option α} {r : α} (h : Evt g r) : ∃ k, g k = some r := by
  obtain ⟨K, h⟩ := h
  exact ⟨K, h K (Nat.le_refl _)⟩
theorem Evt.pure {α : Type} {r : α} : Evt (fun _ => some r) r := ⟨0, fun _ _ => rfl⟩
theorem Evt.const {α : Type} {o : Option α} {r : α} (h : o = some r) : Evt (fun _ => o) r := ⟨0, fun _ _ => h⟩
theorem Evt.of_eq {α : Type} {g g' : Nat → Option α} {r : α} (e : ∀ k, g' k = g k) (h : Evt g r) : Evt g' r := by
  obtain ⟨K, h⟩ := h
  exact ⟨K, fun k hk => (e k).trans (h k hk)⟩
theorem Evt.bind {α β : Type} {g : Nat → Option α} {f : Nat → α → Option β} {a : α} {r : β} (h : Evt g a) (h2 : Evt (fun k => f k a) r) : Evt (fun k => (g k).bind (f k)) r := by
  obtain ⟨K, h⟩ := h
  obtain ⟨K2, h2⟩ := h2
  refine ⟨K + K2, fun k hk => ?_⟩
  show (g k).bind (f k) = some r
  rw [h k (by omega)]
  exact h2 k (by omega)
theorem Evt.step {α : Type} {g h : Nat → Option α} {r : α} (e : ∀ k, g (k + 1) = h k) (hh : Evt h r) : Evt g r := by
  obtain ⟨K, hh⟩ := hh
  refine ⟨K + 1, fun k hk => ?_⟩
  obtain ⟨m, rfl⟩ : ∃ m, k = m + 1 := ⟨k - 1, by omega⟩
  rw [e m]
  exact hh m (by omega)
theorem Evt.ite_pos {α : Type} {c : Prop} [Decidable c] {g h : Nat → Option α} {r : α} (hc : c) (hg : Evt g r) : Evt (fun k => if c then g k else h k) r := Evt.of_eq (fun k => if_pos hc) hg
theorem Evt.ite_neg {α : Type} {c : Prop} [Decidable c] {g h : Nat → Option α} {r : α} (hc : ¬ c) (hg : Evt h r) : Evt (fun k => if c then g k else h k) r := Evt.of_eq (fun k => if_neg hc) hg
theorem Evt.up {α : Type} {g : Nat → Nat → Option α} {R : Nat → α} {n : Nat} (hend : Evt (fun k => g k n) (R n)) (hstep : ∀ i, i < n → Evt (fun k => g k (i + 1)) (R (i + 1)) → Evt (fun k => g k i) (R i)) : ∀ i, i ≤ n → Evt (fun k => g k i) (R i) := by
  intro i hi
  obtain ⟨d, hd⟩ : ∃ d, n = i + d := ⟨n - i, by omega⟩
  induction d generalizing i with
  | zero => have e : i = n := by omega
            rw [e]; exact hend
  | succ d ih => exact hstep i (by omega) (ih (i + 1) (by omega) (by omega))
theorem Evt.upS {α σ : Type} {g : Nat → Nat → σ → Option α} {R : Nat → σ → α} {P : Nat → σ → Prop} {n : Nat} (hend : ∀ s, P n s → Evt (fun k => g k n s) (R n s))
    (hstep : ∀ i s, i < n → P i s → (∀ s', P (i + 1) s' → Evt (fun k => g k (i + 1) s') (R (i + 1) s')) → Evt (fun k => g k i s) (R i s)) : ∀ i s, i ≤ n → P i s → Evt (fun k => g k i s) (R i s) := by
  intro i s hi hp
  obtain ⟨d, hd⟩ : ∃ d, n = i + d := ⟨n - i, by omega⟩
  induction d generalizing i s with
  | zero => have e : i = n := by omega
            rw [e] at hp ⊢; exact hend s hp
  | succ d ih => exact hstep i s (by omega) hp (fun s' hp' => ih (i + 1) s' (by omega) hp' (by omega))
def Both {α : Type} (g h : Nat → Option α) : Prop := ∃ r, Evt g r ∧ Evt h r
theorem Both.pure {α : Type} {r : α} : Both (fun _ => some r) (fun _ => some r) := ⟨r, Evt.pure, Evt.pure⟩
theorem wrap_succ {i n : Nat} (h : i < n) (hn : n ≤ 9223372036854775807) : wrap64 ((i : Int) + 1) = ((i + 1 : Nat) : Int) := by
  unfold wrap64
  omega
end Go.Proofs.Ytgfpmgmelhbkoaa.Pure
end
section
namespace Go.Proofs.Ytgfpmgmelhbkoaa.Pure
open Go.RowKit Go.Proofs.Ytgfpmgmelhbkoaa Go.Proofs.Ytgfpmgmelhbkoaa.Q Go.Proofs.YtgfpmgmelhbkoaaW.PrintWords
set_option linter.unusedVariables false
set_option linter.unusedSimpArgs false
theorem w64 {n : Int} (h0 : -9223372036854775808 ≤ n) (h1 : n ≤ 9223372036854775807) : wrap64 n = n := by
  unfold wrap64
  omega
theorem in_eq (a b c : Int) : spec_l01In.f a b c = some (decide (b ≤ a ∧ a ≤ c)) := by
  unfold spec_l01In.f
  by_cases h : a ≥ b
  · rw [if_pos h]; simp; intro _; exact h
  · rw [if_neg h]; simp; intro h2; omega
theorem within_eq (a b c : Int) : impl_within.f a b c = some (decide (b ≤ a ∧ a ≤ c)) := in_eq a b c
end Go.Proofs.Ytgfpmgmelhbkoaa.Pure
end
section
namespace Go.Proofs.Ytgfpmgmelhbkoaa.Pure
open Go.RowKit Go.Proofs.Ytgfpmgmelhbkoaa Go.Proofs.Ytgfpmgmelhbkoaa.Q Go.Proofs.YtgfpmgmelhbkoaaW.PrintWords
set_option linter.unusedVariables false
set_option linter.unusedSimpArgs false
def Co (x : Int) : Bool := decide (-100 ≤ x ∧ x ≤ 100)
theorem Co_iff {x : Int} : Co x = true ↔ -100 ≤ x ∧ x ≤ 100 := by simp [Co]
theorem l02Cell_eq (x y : Int) : spec_l02Cell.f x y = some (Co x && Co y) := by
  unfold spec_l02Cell.f Co
  rw [in_eq]
  simp only [Option.bind_some]
  by_cases c : -100 ≤ x ∧ x ≤ 100
  · rw [if_pos (by simpa using c), in_eq]
    simp [c]
  · rw [if_neg (by simpa using c)]
    simp [c]
end Go.Proofs.Ytgfpmgmelhbkoaa.Pure
end
section
namespace Go.Proofs.Ytgfpmgmelhbkoaa.Pure
open Go.RowKit Go.Proofs.Ytgfpmgmelhbkoaa Go.Proofs.Ytgfpmgmelhbkoaa.Q Go.Proofs.YtgfpmgmelhbkoaaW.PrintWords
set_option linter.unusedVariables false
set_option linter.unusedSimpArgs false
abbrev Cell := S35
def allF (ok : Nat → Bool) (n i : Nat) : Bool := (List.range' i (n - i)).all ok
theorem allF_end (ok : Nat → Bool) (n : Nat) : allF ok n n = true := by simp [allF]
theorem allF_succ (ok : Nat → Bool) {n i : Nat} (h : i < n) : allF ok n i = (ok i && allF ok n (i + 1)) := by
  unfold allF
  rw [show n - i = (n - (i + 1)) + 1 by omega, List.range'_succ]
  rfl
theorem allF_true {ok : Nat → Bool} {n i : Nat} : allF ok n i = true ↔ ∀ j, i ≤ j → j < n → ok j = true := by
  unfold allF
  rw [List.all_eq_true]
  constructor
  · intro h j h1 h2
    exact h j (by rw [List.mem_range'_1]; omega)
  · intro h j hj
    rw [List.mem_range'_1] at hj
    exact h j (by omega) (by omega)
def lessC (a b : Cell) : Bool := decide (a.f1 < b.f1) || (decide (a.f1 = b.f1) && decide (a.f0 < b.f0))
theorem l02Less_eq (a b : Cell) : spec_l02Less.f a.f0 a.f1 b.f0 b.f1 = some (lessC a b) := by
  unfold spec_l02Less.f lessC
  by_cases h : a.f1 < b.f1
  · simp [h]
  · by_cases h2 : a.f1 = b.f1
    · simp [h2]
    · simp [h, h2]
def shOk (l : List Cell) (i : Nat) : Bool := (Co (l.getD i z35).f0 && Co (l.getD i z35).f1) && (decide (i = 0) || lessC (l.getD (i - 1) z35) (l.getD i z35))
def Sh (l : List Cell) : Bool := allF (shOk l) l.length 0 && decide (1 ≤ l.length ∧ l.length ≤ 40)
theorem rd_getD (l : List Cell) (i : Nat) : rd_T35 l (i : Int) = l.getD i z35 := by simp [rd_T35]
theorem spec_IsShape_eq (l : List Cell) (hl : l.length ≤ 9223372036854775807) : Evt (fun k => spec_IsShape.f k l) (Sh l) := by
  unfold spec_IsShape.f
  refine Evt.up (g := fun k i => spec_IsShape.l0 k l (i : Int)) (R := fun i => allF (shOk l) l.length i && decide (1 ≤ l.length ∧ l.length ≤ 40)) (n := l.length) ?_ ?_ 0 (Nat.zero_le _)
  · refine Evt.step (fun k => rfl) ?_
    simp only [spec_IsShape.l0]
    refine Evt.ite_neg (by omega) ?_
    rw [in_eq, allF_end, Bool.true_and]
    refine Evt.const ?_
    simp only [Option.bind_some]
    congr 1
    exact decide_eq_decide.2 (by omega)
  · intro i hi ih
    refine Evt.step (fun k => rfl) ?_
    simp only [spec_IsShape.l0, l02Cell_eq, Option.bind_some]
    refine Evt.ite_pos (by omega) (Evt.ite_pos (by omega) ?_)
    rw [allF_succ _ hi]
    simp only [rd_getD]
    by_cases hc : (Co (l.getD i z35).f0 && Co (l.getD i z35).f1) = true
    · refine Evt.ite_pos hc ?_
      by_cases h0 : i = 0
      · subst h0
        refine Evt.ite_neg (by omega) ?_
        rw [wrap_succ hi hl]
        have e : shOk l 0 = true := by unfold shOk; rw [hc]; rfl
        rw [e, Bool.true_and]
        exact ih
      · refine Evt.ite_pos (by omega) ?_
        have ew : wrap64 ((i : Int) - 1) = ((i - 1 : Nat) : Int) := by rw [w64 (by omega) (by omega)]; omega
        simp only [ew, rd_getD, l02Less_eq, Option.bind_some]
        refine Evt.ite_pos (by omega) (Evt.ite_pos (by omega) ?_)
        rw [wrap_succ hi hl]
        by_cases hls : lessC (l.getD (i - 1) z35) (l.getD i z35) = true
        · refine Evt.ite_pos hls ?_
          have e : shOk l i = true := by unfold shOk; rw [hc, hls]; simp
          rw [e, Bool.true_and]
          exact ih
        · refine Evt.ite_neg hls ?_
          have e : shOk l i = false := by unfold shOk; rw [hc, Bool.eq_false_iff.mpr hls]; simp [h0]
          rw [e]
          exact Evt.pure
    · refine Evt.ite_neg hc ?_
      have e : shOk l i = false := by unfold shOk; rw [Bool.eq_false_iff.mpr hc]; rfl
      rw [e]
      exact Evt.pure
theorem Sh_len {l : List Cell} (h : Sh l = true) : 1 ≤ l.length ∧ l.length ≤ 40 := by
  unfold Sh at h
  simp only [Bool.and_eq_true, decide_eq_true_eq] at h
  exact h.2
theorem Sh_co {l : List Cell} (h : Sh l = true) : ∀ c ∈ l, (-100 ≤ c.f0 ∧ c.f0 ≤ 100) ∧ -100 ≤ c.f1 ∧ c.f1 ≤ 100 := by
  intro c hc
  obtain ⟨i, hi, rfl⟩ := List.getElem_of_mem hc
  unfold Sh at h
  simp only [Bool.and_eq_true, decide_eq_true_eq] at h
  have h2 := allF_true.1 h.1 i (Nat.zero_le _) hi
  unfold shOk at h2
  simp only [Bool.and_eq_true, List.getD_eq_getElem?_getD, List.getElem?_eq_getElem hi, Option.getD_some] at h2
  exact ⟨Co_iff.1 h2.1.1, Co_iff.1 h2.1.2⟩
end Go.Proofs.Ytgfpmgmelhbkoaa.Pure
end
section
namespace Go.Proofs.Ytgfpmgmelhbkoaa.Pure
open Go.RowKit Go.Proofs.Ytgfpmgmelhbkoaa Go.Proofs.Ytgfpmgmelhbkoaa.Q Go.Proofs.YtgfpmgmelhbkoaaW.PrintWords
set_option linter.unusedVariables false
set_option linter.unusedSimpArgs false
def cc (p : Int × Int) : Cell := ⟨p.1, p.2⟩
def ixAt (p : Int × Int) : Nat → List Cell → Int
  | _, [] => -1
  | i, c :: r => if c.f0 = p.1 ∧ c.f1 = p.2 then (i : Int) else ixAt p (i + 1) r
theorem ixAt_mem (p : Int × Int) : ∀ (l : List Cell) (i : Nat), 0 ≤ ixAt p i l ↔ cc p ∈ l
  | [], i => by simp [ixAt]
  | c :: r, i => by
    unfold ixAt
    by_cases h : c.f0 = p.1 ∧ c.f1 = p.2
    · rw [if_pos h]
      have e : c = cc p := by
        cases c
        unfold cc
        simp at h
        rw [h.1, h.2]
      simp [e]
    · rw [if_neg h, ixAt_mem p r (i + 1), List.mem_cons]
      constructor
      · exact fun h2 => Or.inr h2
      · rintro (e | h2)
        · exact absurd (by rw [← e]; exact ⟨rfl, rfl⟩) h
        · exact h2
theorem drop_getD {α : Type} (l : List α) (i : Nat) (z : α) (h : i < l.length) : l.drop i = l.getD i z :: l.drop (i + 1) := by
  rw [List.drop_eq_getElem_cons h]
  simp [List.getD_eq_getElem?_getD, List.getElem?_eq_getElem h]
theorem l02Index_eq (l : List Cell) (x y : Int) (hl : l.length ≤ 9223372036854775807) : Evt (fun k => spec_l02Index.f k l x y) (ixAt (x, y) 0 l) := by
  unfold spec_l02Index.f
  have h := Evt.up (g := fun k i => spec_l02Index.l0 k l (i : Int) x y) (R := fun i => ixAt (x, y) i (l.drop i)) (n := l.length) ?_ ?_ 0 (Nat.zero_le _)
  · exact h
  · refine Evt.step (fun k => rfl) ?_
    simp only [spec_l02Index.l0]
    refine Evt.ite_neg (by omega) ?_
    rw [List.drop_length]
    exact Evt.pure
  · intro i hi ih
    refine Evt.step (fun k => rfl) ?_
    simp only [spec_l02Index.l0, rd_getD]
    refine Evt.ite_pos (by omega) (Evt.ite_pos (by omega) ?_)
    rw [drop_getD l i z35 hi]
    unfold ixAt
    by_cases hc : (l.getD i z35).f0 = x ∧ (l.getD i z35).f1 = y
    · rw [if_pos hc]
      refine Evt.ite_pos (by rw [hc.1, hc.2]; simp) Evt.pure
    · rw [if_neg hc]
      refine Evt.ite_neg (by simpa using hc) ?_
      rw [wrap_succ hi hl]
      exact ih
end Go.Proofs.Ytgfpmgmelhbkoaa.Pure
end
section
namespace Go.Proofs.Ytgfpmgmelhbkoaa.Pure
open Go.RowKit Go.Proofs.Ytgfpmgmelhbkoaa Go.Proofs.Ytgfpmgmelhbkoaa.Q Go.Proofs.YtgfpmgmelhbkoaaW.PrintWords
set_option linter.unusedVariables false
set_option linter.unusedSimpArgs false
theorem ixAt_top (p : Int × Int) : ∀ (l : List Cell) (i : Nat), ixAt p i l < (i : Int) + l.length ∨ ixAt p i l = -1
  | [], i => Or.inr rfl
  | c :: r, i => by
    unfold ixAt
    by_cases h : c.f0 = p.1 ∧ c.f1 = p.2
    · rw [if_pos h]
      exact Or.inl (by simp only [List.length_cons]; omega)
    · rw [if_neg h]
      rcases ixAt_top p r (i + 1) with h2 | h2
      · refine Or.inl ?_
        simp only [List.length_cons]
        omega
      · exact Or.inr h2
theorem getD_mem0 {α : Type} (l : List α) (i : Nat) (z : α) (h : i < l.length) : l.getD i z ∈ l := by
  simp [List.getD_eq_getElem?_getD, List.getElem?_eq_getElem h]
theorem rdI (l : List Int) (i : Nat) : rd l (i : Int) = l.getD i 0 := by simp [rd]
def negs : List Int → Nat
  | [] => 0
  | x :: r => (if x < 0 then 1 else 0) + negs r
theorem negs_le : ∀ l : List Int, negs l ≤ l.length
  | [] => Nat.le_refl _
  | x :: r => by
    have := negs_le r
    unfold negs
    simp only [List.length_cons]
    split <;> omega
theorem negs_set : ∀ (l : List Int) (i : Nat) (a : Int), i < l.length → l.getD i 0 < 0 → 0 ≤ a → negs (l.set i a) + 1 = negs l
  | [], i, a, h, _, _ => by simp at h
  | x :: r, 0, a, _, h, h0 => by
    simp only [List.getD_cons_zero] at h
    simp only [List.set_cons_zero, negs]
    rw [if_pos h, if_neg (by omega)]
    omega
  | x :: r, i + 1, a, hl, h, h0 => by
    simp only [List.getD_cons_succ] at h
    simp only [List.set_cons_succ, negs]
    have := negs_set r i a (by simpa using hl) h h0
    omega
def Opens (n : Nat) (l : List Int) : Prop := ∀ e ∈ l, 0 ≤ e ∧ e < (n : Int)
def In (b : Int) (l : List Cell) : Prop := ∀ c ∈ l, (-b ≤ c.f0 ∧ c.f0 ≤ b) ∧ -b ≤ c.f1 ∧ c.f1 ≤ b
def arn (c : Cell) : List Cell := [⟨c.f0, wrap64 (c.f1 - 1)⟩, ⟨wrap64 (c.f0 - 1), c.f1⟩, ⟨wrap64 (c.f0 + 1), c.f1⟩, ⟨c.f0, wrap64 (c.f1 + 1)⟩]
theorem arn_spec (c : Cell) : spec_l02Around.f c.f0 c.f1 = some (arn c) := rfl
theorem arn_impl (c : Cell) : impl_around.f c.f0 c.f1 = some (arn c) := rfl
def stpT (l : List Cell) (x : Int) : List Cell → List Int × List Int → List Int × List Int
  | [], s => s
  | d :: r, s => stpT l x r (if 0 ≤ ixAt (d.f0, d.f1) 0 l ∧ rd s.1 (ixAt (d.f0, d.f1) 0 l) < 0 then (s.1.set (ixAt (d.f0, d.f1) 0 l).toNat x, s.2 ++ [ixAt (d.f0, d.f1) 0 l]) else s)
theorem stpT_cons (l : List Cell) (x : Int) (d : Cell) (r : List Cell) (s : List Int × List Int) : stpT l x (d :: r) s = stpT l x r (if 0 ≤ ixAt (d.f0, d.f1) 0 l ∧ rd s.1 (ixAt (d.f0, d.f1) 0 l) < 0 then (s.1.set (ixAt (d.f0, d.f1) 0 l).toNat x, s.2 ++ [ixAt (d.f0, d.f1) 0 l]) else s) := rfl
def bfsT (l : List Cell) (x : Int) : Nat → List Int → List Int → List Int
  | 0, o, _ => o
  | _ + 1, o, [] => o
  | M + 1, o, e :: r => bfsT l x M (stpT l x (arn (rd_T35 l e)) (o, r)).1 (stpT l x (arn (rd_T35 l e)) (o, r)).2
def outT (l : List Cell) : Nat → List Int → List Int
  | 0, o => o
  | d + 1, o => if rd o ((l.length - (d + 1) : Nat) : Int) ≥ 0 then outT l d o else outT l d (bfsT l ((l.length - (d + 1) : Nat) : Int) (l.length + 1) (o.set (l.length - (d + 1)) ((l.length - (d + 1) : Nat) : Int)) [((l.length - (d + 1) : Nat) : Int)])
def PI (n M : Nat) (s : List Int × List Int) : Prop := s.1.length = n ∧ Opens n s.2 ∧ negs s.1 + s.2.length ≤ M
theorem PI.step {l : List Cell} {x : Int} (hx : 0 ≤ x) {M : Nat} {s : List Int × List Int} (h : PI l.length M s) (t : Int) (ht : t < (l.length : Int) ∨ t = -1) :
    PI l.length M (if 0 ≤ t ∧ rd s.1 t < 0 then (s.1.set t.toNat x, s.2 ++ [t]) else s) := by
  obtain ⟨h1, h2, h3⟩ := h
  by_cases c : 0 ≤ t ∧ rd s.1 t < 0
  · rw [if_pos c]
    have htl : t.toNat < s.1.length := by omega
    have hn := negs_set s.1 t.toNat x htl (by have := c.2; simpa [rd] using this) hx
    refine ⟨by simpa using h1, fun e he => ?_, ?_⟩
    · rcases List.mem_append.1 he with he | he
      · exact h2 e he
      · rw [List.mem_singleton.1 he]; omega
    · show negs (s.1.set t.toNat x) + (s.2 ++ [t]).length ≤ M
      rw [List.length_append, List.length_singleton]
      omega
  · rw [if_neg c]
    exact ⟨h1, h2, h3⟩
theorem PI.stp {l : List Cell} {x : Int} (hx : 0 ≤ x) {M : Nat} : ∀ (ds : List Cell) (s : List Int × List Int), PI l.length M s → PI l.length M (stpT l x ds s)
  | [], s, h => h
  | d :: r, s, h => by
    unfold stpT
    refine PI.stp hx r _ (PI.step hx h _ ?_)
    have := ixAt_top (d.f0, d.f1) l 0
    omega
theorem bfs_len {l : List Cell} {x : Int} (hx : 0 ≤ x) : ∀ (M : Nat) (o q : List Int), PI l.length M (o, q) → (bfsT l x M o q).length = l.length
  | 0, o, q, h => h.1
  | M + 1, o, [], h => h.1
  | M + 1, o, e :: r, h => by
    unfold bfsT
    obtain ⟨h1, h2, h3⟩ := h
    have hp : PI l.length M (o, r) := ⟨h1, fun y hy => h2 y (List.mem_cons_of_mem _ hy), by simp only [List.length_cons] at h3 ⊢; omega⟩
    exact bfs_len hx M _ _ (PI.stp hx _ _ hp)
theorem start_PI {l : List Cell} (o : List Int) (i : Nat) (ho : o.length = l.length) (hi : i < l.length) (hn : rd o (i : Int) < 0) : PI l.length (l.length + 1) (o.set i (i : Int), [(i : Int)]) := by
  have h1 := negs_set o i (i : Int) (by omega) (by rw [rdI] at hn; exact hn) (by omega)
  have h2 := negs_le o
  refine ⟨by simpa using ho, fun e he => ?_, ?_⟩
  · rw [List.mem_singleton.1 he]; omega
  · show negs (o.set i (i : Int)) + 1 ≤ l.length + 1
    omega
section
variable {l : List Cell} (hl : l.length ≤ 100000)
include hl
theorem spec_l3 {x : Int} (hx : 0 ≤ x) {M : Nat} (hM : M ≤ 1000000) (c7 : List Cell) (h7 : c7.length = 4) (s : List Int × List Int) (h : PI l.length M s) {R : List Int}
    (cont : Evt (fun k => spec_l02Parts.l2 k l (stpT l x c7 s).1 x (stpT l x c7 s).2) R) : Evt (fun k => spec_l02Parts.l3 k l s.1 x s.2 c7 0) R := by
  refine Evt.upS (g := fun k i (s : List Int × List Int) => spec_l02Parts.l3 k l s.1 x s.2 c7 (i : Int)) (R := fun _ _ => R) (P := fun i s' => PI l.length M s' ∧ stpT l x (c7.drop i) s' = stpT l x c7 s) (n := 4) ?_ ?_ 0 s (Nat.zero_le _) ⟨h, rfl⟩
  · rintro s' ⟨hp, he⟩
    refine Evt.step (fun k => rfl) ?_
    simp only [spec_l02Parts.l3]
    rw [show c7.drop 4 = [] by rw [← h7]; exact List.drop_length] at he
    refine Evt.ite_neg (by omega) ?_
    rw [show s' = stpT l x c7 s from he]
    exact cont
  · rintro i s' hi4 ⟨hp, he⟩ ih
    obtain ⟨h1, h2, h3⟩ := hp
    refine Evt.step (fun k => rfl) ?_
    simp only [spec_l02Parts.l3]
    rw [drop_getD c7 i z35 (by omega), stpT_cons] at he
    refine Evt.ite_pos (by omega) (Evt.ite_pos (by omega) (Evt.ite_pos (by omega) ?_))
    rw [rd_getD]
    refine (l02Index_eq l _ _ (by omega)).bind ?_
    have htop := ixAt_top ((c7.getD i z35).f0, (c7.getD i z35).f1) l 0
    have hst := PI.step hx (M := M) (s := s') ⟨h1, h2, h3⟩ (ixAt ((c7.getD i z35).f0, (c7.getD i z35).f1) 0 l) (by omega)
    generalize ixAt ((c7.getD i z35).f0, (c7.getD i z35).f1) 0 l = t at htop he hst ⊢
    rw [wrap_succ hi4 (by omega)]
    by_cases ht : t ≥ 0
    · refine Evt.ite_pos ht (Evt.ite_pos (by omega) (Evt.ite_pos (by omega) ?_))
      by_cases hn : rd s'.1 t < 0
      · rw [if_pos ⟨ht, hn⟩] at he hst
        exact Evt.ite_pos hn (Evt.ite_pos (by omega) (ih (_, _) ⟨hst, he⟩))
      · rw [if_neg (fun c => hn c.2)] at he
        exact Evt.ite_neg hn (ih s' ⟨⟨h1, h2, h3⟩, he⟩)
    · rw [if_neg (fun c => ht c.1)] at he
      exact Evt.ite_neg ht (ih s' ⟨⟨h1, h2, h3⟩, he⟩)
theorem spec_l2 {x : Int} (hx : 0 ≤ x) {R : List Int} : ∀ (M : Nat) (o q : List Int), M ≤ 1000000 → PI l.length M (o, q) → Evt (fun k => spec_l02Parts.l1 k l (bfsT l x M o q) (wrap64 (x + 1))) R → Evt (fun k => spec_l02Parts.l2 k l o x q) R
  | 0, o, q, hM, h, cont => by
    have hq : q = [] := by
      have := h.2.2
      simp only at this
      exact List.length_eq_zero_iff.1 (by omega)
    subst hq
    refine Evt.step (fun k => rfl) ?_
    simp only [spec_l02Parts.l2]
    exact Evt.ite_neg (by simp) cont
  | M + 1, o, [], hM, h, cont => by
    refine Evt.step (fun k => rfl) ?_
    simp only [spec_l02Parts.l2]
    exact Evt.ite_neg (by simp) cont
  | M + 1, o, e :: r, hM, h, cont => by
    obtain ⟨h1, h2, h3⟩ := h
    have he := h2 e List.mem_cons_self
    refine Evt.step (fun k => rfl) ?_
    simp only [spec_l02Parts.l2]
    have e0 : rd (e :: r) 0 = e := by simp [rd]
    rw [e0, arn_spec]
    simp only [Option.bind_some, List.length_cons]
    refine Evt.ite_pos (by omega) (Evt.ite_pos (by omega) (Evt.ite_pos he.1 (Evt.ite_pos he.2 (Evt.ite_pos (by omega) ?_))))
    rw [show (e :: r).drop (1 : Int).toNat = r from rfl]
    have hp : PI l.length M (o, r) := ⟨h1, fun y hy => h2 y (List.mem_cons_of_mem _ hy), by simp only [List.length_cons] at h3 ⊢; omega⟩
    exact spec_l3 hl hx (by omega) _ rfl (o, r) hp (spec_l2 hx M _ _ (by omega) (PI.stp hx _ _ hp) cont)
theorem spec_l1 : ∀ (d : Nat) (o : List Int), d ≤ l.length → o.length = l.length → Evt (fun k => spec_l02Parts.l1 k l o ((l.length - d : Nat) : Int)) (outT l d o)
  | 0, o, hd, ho => by
    refine Evt.step (fun k => rfl) ?_
    simp only [spec_l02Parts.l1]
    exact Evt.ite_neg (by omega) Evt.pure
  | d + 1, o, hd, ho => by
    refine Evt.step (fun k => rfl) ?_
    simp only [spec_l02Parts.l1]
    unfold outT
    have hw : wrap64 (((l.length - (d + 1) : Nat) : Int) + 1) = ((l.length - d : Nat) : Int) := by
      rw [wrap_succ (n := l.length) (by omega) (by omega)]
      omega
    refine Evt.ite_pos (by omega) (Evt.ite_pos (by omega) (Evt.ite_pos (by omega) ?_))
    by_cases h : rd o ((l.length - (d + 1) : Nat) : Int) ≥ 0
    · rw [if_pos h, hw]
      exact Evt.ite_pos h (spec_l1 d o (by omega) ho)
    · rw [if_neg h]
      refine Evt.ite_neg h ?_
      have hp := start_PI o (l.length - (d + 1)) ho (by omega) (by omega)
      rw [Int.toNat_natCast]
      refine spec_l2 hl (by omega) (l.length + 1) _ _ (by omega) hp ?_
      rw [hw]
      exact spec_l1 d _ (by omega) (bfs_len (by omega) _ _ _ hp)
theorem spec_parts : Evt (fun k => spec_l02Parts.f k l) (outT l l.length (List.replicate l.length (-1))) := by
  unfold spec_l02Parts.f
  refine Evt.upS (g := fun k i s => spec_l02Parts.l0 k l s (i : Int)) (R := fun _ _ => outT l l.length (List.replicate l.length (-1))) (P := fun i s => s = List.replicate i (-1)) (n := l.length) ?_ ?_ 0 [] (Nat.zero_le _) rfl
  · rintro s rfl
    refine Evt.step (fun k => rfl) ?_
    simp only [spec_l02Parts.l0]
    have h := spec_l1 hl l.length (List.replicate l.length (-1)) (Nat.le_refl _) (by simp)
    rw [Nat.sub_self] at h
    exact Evt.ite_neg (by omega) h
  · rintro i s hin rfl ih
    refine Evt.step (fun k => rfl) ?_
    simp only [spec_l02Parts.l0]
    rw [wrap_succ hin (by omega)]
    exact Evt.ite_pos (by omega) (Evt.ite_pos (by simp; omega) (ih _ (List.replicate_succ').symm))
end
theorem mget_consP {κ : Type} [DecidableEq κ] {ε : Type} (x y : κ) (v : ε) (L : List (κ × ε)) : mget ((x, v) :: L) y = if x = y then some v else mget L y := by
  by_cases e : x = y
  · rw [if_pos e]; simp [mget, e]
  · rw [if_neg e]; simp [mget, e]
theorem mget_plc (p : Int × Int) : ∀ (l : List Cell) (i : Nat) (L : List ((Int × Int) × Int)), l.Nodup → mget (impl_parts.plc (i : Int) l L) p = if 0 ≤ ixAt p i l then some (ixAt p i l) else mget L p
  | [], i, L, _ => by
    rw [show impl_parts.plc (i : Int) [] L = L from rfl, show ixAt p i [] = -1 from rfl, if_neg (by omega)]
  | c :: r, i, L, hn => by
    rw [show impl_parts.plc (i : Int) (c :: r) L = impl_parts.plc (((i + 1 : Nat)) : Int) r (((c.f0, c.f1), (i : Int)) :: L) from rfl]
    obtain ⟨hc, hr⟩ := List.nodup_cons.1 hn
    rw [mget_plc p r (i + 1) _ hr, mget_consP, show ixAt p i (c :: r) = (if c.f0 = p.1 ∧ c.f1 = p.2 then (i : Int) else ixAt p (i + 1) r) from rfl]
    by_cases h : c.f0 = p.1 ∧ c.f1 = p.2
    · rw [if_pos h, if_pos (by omega : (0 : Int) ≤ (i : Int)), if_pos (Prod.ext h.1 h.2)]
      have hcc : cc p = c := by
        unfold cc
        rw [← h.1, ← h.2]
      have hnm : ¬ 0 ≤ ixAt p (i + 1) r := fun h2 => hc (by rw [← hcc]; exact (ixAt_mem p r (i + 1)).1 h2)
      rw [if_neg hnm]
    · rw [if_neg h, if_neg (fun e => h ⟨congrArg Prod.fst e, congrArg Prod.snd e⟩)]
def Wds (ds : List Cell) : Prop := ∀ d ∈ ds, (prng d.f0 && prng d.f1) = true
theorem prng_w (x : Int) : prng (wrap64 x) = true := by
  unfold prng wrap64
  simp only [Bool.and_eq_true, decide_eq_true_eq]
  omega
theorem wds_arn {c : Cell} (h : (-1000000 ≤ c.f0 ∧ c.f0 ≤ 1000000) ∧ -1000000 ≤ c.f1 ∧ c.f1 ≤ 1000000) : Wds (arn c) := by
  have p0 : prng c.f0 = true := by unfold prng; simp only [Bool.and_eq_true, decide_eq_true_eq]; omega
  have p1 : prng c.f1 = true := by unfold prng; simp only [Bool.and_eq_true, decide_eq_true_eq]; omega
  intro d hd
  unfold arn at hd
  simp only [List.mem_cons, List.not_mem_nil, or_false] at hd
  rcases hd with rfl | rfl | rfl | rfl <;> simp [p0, p1, prng_w]
theorem stp_app (l : List Cell) (x : Int) : ∀ (ds : List Cell) (o a b : List Int), stpT l x ds (o, a ++ b) = ((stpT l x ds (o, b)).1, a ++ (stpT l x ds (o, b)).2)
  | [], o, a, b => rfl
  | d :: r, o, a, b => by
    rw [stpT_cons, stpT_cons]
    by_cases c : 0 ≤ ixAt (d.f0, d.f1) 0 l ∧ rd o (ixAt (d.f0, d.f1) 0 l) < 0
    · rw [if_pos c, if_pos c, List.append_assoc]
      exact stp_app l x r _ a _
    · rw [if_neg c, if_neg c]
      exact stp_app l x r o a b
theorem impl_stp {l : List Cell} (hl : l.length ≤ 100000) (hn : l.Nodup) {x : Int} (hx : 0 ≤ x) : ∀ (ds : List Cell) (o q : List Int), Wds ds → o.length = l.length → negs o + q.length ≤ l.length + 1 → Opens l.length q → impl_parts.stp (impl_parts.plc 0 l []) x ds o q = some (stpT l x ds (o, q))
  | [], o, q, _, _, _, _ => rfl
  | d :: r, o, q, hw, ho, hq, hop => by
    have hwd := hw d List.mem_cons_self
    have hwr : Wds r := fun e he => hw e (List.mem_cons_of_mem _ he)
    have hm := mget_plc (d.f0, d.f1) l 0 [] hn
    have htop := ixAt_top (d.f0, d.f1) l 0
    rw [stpT_cons]
    unfold impl_parts.stp
    rw [if_pos hwd]
    rw [show ((0 : Nat) : Int) = 0 from rfl] at hm
    rw [hm]
    have hst := PI.step hx (M := l.length + 1) (s := (o, q)) ⟨ho, hop, hq⟩ (ixAt (d.f0, d.f1) 0 l) (by omega)
    by_cases h0 : 0 ≤ ixAt (d.f0, d.f1) 0 l
    · rw [if_pos h0]
      simp only
      rw [if_pos ⟨h0, by omega, by omega⟩]
      by_cases h1 : rd o (ixAt (d.f0, d.f1) 0 l) < 0
      · rw [if_pos h1, if_pos ⟨h0, h1⟩]
        rw [if_pos ⟨h0, h1⟩] at hst
        exact impl_stp hl hn hx r _ _ hwr hst.1 hst.2.2 hst.2.1
      · rw [if_neg h1, if_neg (fun c => h1 c.2)]
        exact impl_stp hl hn hx r o q hwr ho hq hop
    · rw [if_neg h0, show mget ([] : List ((Int × Int) × Int)) (d.f0, d.f1) = none from rfl, if_neg (fun c => h0 c.1)]
      exact impl_stp hl hn hx r o q hwr ho hq hop
theorem impl_bfs {l : List Cell} (hl : l.length ≤ 100000) (hn : l.Nodup) (hi : In 1000000 l) {x : Int} (hx : 0 ≤ x) : ∀ (M : Nat) (o a b : List Int), o.length = l.length → negs o + (a ++ b).length ≤ l.length + 1 → negs o + b.length ≤ M → Opens l.length (a ++ b) →
    Evt (fun k => impl_parts.bfs l (impl_parts.plc 0 l []) x k o (a ++ b) a.length) (bfsT l x M o b)
  | M, o, a, [], ho, hq, hM, hop => by
    have e : bfsT l x M o [] = o := by cases M <;> rfl
    rw [e]
    refine Evt.step (fun k => rfl) ?_
    simp only [impl_parts.bfs]
    exact Evt.ite_neg (by simp) Evt.pure
  | 0, o, a, e :: r, ho, hq, hM, hop => by simp at hM
  | M + 1, o, a, e :: r, ho, hq, hM, hop => by
    have he := hop e (by simp)
    refine Evt.step (fun k => rfl) ?_
    simp only [impl_parts.bfs]
    have hrd : rd (a ++ e :: r) (a.length : Int) = e := by simp [rd]
    rw [hrd]
    obtain ⟨j, rfl⟩ : ∃ j : Nat, e = (j : Int) := ⟨e.toNat, by omega⟩
    have hj : j < l.length := by omega
    have hmem : l.getD j z35 ∈ l := by simp [List.getD_eq_getElem?_getD, List.getElem?_eq_getElem hj]
    refine Evt.ite_pos (by simp) (Evt.ite_pos ⟨by omega, by omega⟩ ?_)
    rw [arn_impl]
    simp only [Option.bind_some]
    have hs := impl_stp hl hn hx (arn (rd_T35 l (j : Int))) o (a ++ (j : Int) :: r) (wds_arn (by rw [rd_getD]; exact hi _ hmem)) ho hq hop
    rw [hs]
    simp only [Option.bind_some]
    rw [show a ++ (j : Int) :: r = (a ++ [(j : Int)]) ++ r by simp, stp_app]
    have hp : PI l.length M (o, r) := ⟨ho, fun y hy => hop y (by simp [hy]), by simp only [List.length_cons] at hM ⊢; omega⟩
    have hp2 : PI l.length (l.length + 1) (o, (a ++ [(j : Int)]) ++ r) := ⟨ho, fun y hy => hop y (by simpa using hy), by simpa using hq⟩
    have h1 := PI.stp hx (arn (rd_T35 l (j : Int))) _ hp
    have h2 := PI.stp hx (arn (rd_T35 l (j : Int))) _ hp2
    rw [stp_app] at h2
    have hlen : a.length + 1 = (a ++ [(j : Int)]).length := by simp
    rw [hlen]
    unfold bfsT
    exact impl_bfs hl hn hi hx M _ _ _ h1.1 h2.2.2 h1.2.2 h2.2.1
theorem impl_outer {l : List Cell} (hl : l.length ≤ 100000) (hn : l.Nodup) (hi : In 1000000 l) : ∀ (d : Nat) (o : List Int), d ≤ l.length → o.length = l.length → Evt (fun k => impl_parts.outer l (impl_parts.plc 0 l []) k d o) (outT l d o)
  | 0, o, hd, ho => Evt.pure
  | d + 1, o, hd, ho => by
    simp only [impl_parts.outer]
    unfold outT
    by_cases h : rd o ((l.length - (d + 1) : Nat) : Int) ≥ 0
    · rw [if_pos h]
      exact Evt.ite_pos h (impl_outer hl hn hi d o (by omega) ho)
    · rw [if_neg h]
      refine Evt.ite_neg h ?_
      have hp := start_PI o (l.length - (d + 1)) ho (by omega) (by omega)
      have hb := impl_bfs hl hn hi (x := ((l.length - (d + 1) : Nat) : Int)) (by omega) (l.length + 1) (o.set (l.length - (d + 1)) ((l.length - (d + 1) : Nat) : Int)) [] [((l.length - (d + 1) : Nat) : Int)] hp.1 (by simpa using hp.2.2) (by simpa using hp.2.2) (by simpa using hp.2.1)
      exact hb.bind (impl_outer hl hn hi d _ (by omega) (bfs_len (by omega) _ _ _ hp))
theorem impl_parts_eq {l : List Cell} (hl : l.length ≤ 100000) (hn : l.Nodup) (hi : In 1000000 l) : Evt (fun k => impl_parts.f k l) (outT l l.length (List.replicate l.length (-1))) := by
  unfold impl_parts.f
  refine Evt.ite_pos ⟨by omega, List.all_eq_true.2 fun c hc => ?_⟩ (impl_outer hl hn hi l.length _ (Nat.le_refl _) (by simp))
  have := hi c hc
  unfold prng
  simp only [Bool.and_eq_true, decide_eq_true_eq]
  omega
end Go.Proofs.Ytgfpmgmelhbkoaa.Pure
end
section
namespace Go.Proofs.Ytgfpmgmelhbkoaa.Pure
open Go.RowKit Go.Proofs.Ytgfpmgmelhbkoaa Go.Proofs.Ytgfpmgmelhbkoaa.Q Go.Proofs.YtgfpmgmelhbkoaaW.PrintWords
set_option linter.unusedVariables false
set_option linter.unusedSimpArgs false
def J (n : Nat) (o : List Int) : Prop := o.length = n ∧ ∀ j, j < n → o.getD j 0 < 0 ∨ (o.getD j 0 < (n : Int) ∧ o.getD (o.getD j 0).toNat 0 = o.getD j 0)
def Keep (o o' : List Int) : Prop := o'.length = o.length ∧ ∀ j, j < o.length → 0 ≤ o.getD j 0 → o'.getD j 0 = o.getD j 0
theorem Keep.refl (o : List Int) : Keep o o := ⟨rfl, fun _ _ _ => rfl⟩
theorem Keep.trans {a b c : List Int} (h : Keep a b) (k : Keep b c) : Keep a c := ⟨k.1.trans h.1, fun j hj h0 => by
  have e := h.2 j hj h0
  rw [k.2 j (by rw [h.1]; exact hj) (by rw [e]; exact h0), e]⟩
theorem getD_set_eq (o : List Int) (t : Nat) (x : Int) (h : t < o.length) : (o.set t x).getD t 0 = x := by
  simp [List.getD_eq_getElem?_getD, h]
theorem getD_set_ne (o : List Int) (t j : Nat) (x : Int) (h : t ≠ j) : (o.set t x).getD j 0 = o.getD j 0 := by
  simp [List.getD_eq_getElem?_getD, h]
theorem J.set {n : Nat} {o : List Int} (h : J n o) {t : Nat} {x : Int} (ht : t < n) (hn : o.getD t 0 < 0) (x0 : 0 ≤ x) (x1 : x < (n : Int)) (hx : x.toNat = t ∨ o.getD x.toNat 0 = x) : J n (o.set t x) ∧ Keep o (o.set t x) ∧ (o.set t x).getD x.toNat 0 = x := by
  obtain ⟨h1, h2⟩ := h
  have hxx : (o.set t x).getD x.toNat 0 = x := by
    by_cases e : t = x.toNat
    · rw [← e]; exact getD_set_eq o t x (by omega)
    · rw [getD_set_ne o t _ x e]
      rcases hx with hx | hx
      · exact absurd hx.symm e
      · exact hx
  refine ⟨⟨by simpa using h1, fun j hj => ?_⟩, ⟨by simp, fun j hj h0 => ?_⟩, hxx⟩
  · by_cases e : t = j
    · subst e
      rw [getD_set_eq o t x (by omega)]
      exact .inr ⟨x1, hxx⟩
    · rw [getD_set_ne o t j x e]
      rcases h2 j hj with h3 | ⟨h3, h4⟩
      · exact .inl h3
      · by_cases h5 : o.getD j 0 < 0
        · exact .inl h5
        · refine .inr ⟨h3, ?_⟩
          have hne : t ≠ (o.getD j 0).toNat := fun e2 => by
            rw [← e2] at h4
            omega
          rw [getD_set_ne o t _ x hne]
          exact h4
  · have e : t ≠ j := fun e => by
      subst e
      omega
    exact getD_set_ne o t j x e
theorem stp_J {l : List Cell} {x : Int} (x0 : 0 ≤ x) (x1 : x < (l.length : Int)) : ∀ (ds : List Cell) (s : List Int × List Int), J l.length s.1 → s.1.getD x.toNat 0 = x → J l.length (stpT l x ds s).1 ∧ Keep s.1 (stpT l x ds s).1 ∧ (stpT l x ds s).1.getD x.toNat 0 = x
  | [], s, h, hx => ⟨h, Keep.refl _, hx⟩
  | d :: r, s, h, hx => by
    rw [stpT_cons]
    have htop := ixAt_top (d.f0, d.f1) l 0
    by_cases c : 0 ≤ ixAt (d.f0, d.f1) 0 l ∧ rd s.1 (ixAt (d.f0, d.f1) 0 l) < 0
    · rw [if_pos c]
      obtain ⟨h1, h2, h3⟩ := J.set h (t := (ixAt (d.f0, d.f1) 0 l).toNat) (x := x) (by omega) c.2 x0 x1 (.inr hx)
      obtain ⟨k1, k2, k3⟩ := stp_J x0 x1 r (s.1.set (ixAt (d.f0, d.f1) 0 l).toNat x, s.2 ++ [ixAt (d.f0, d.f1) 0 l]) h1 h3
      exact ⟨k1, h2.trans k2, k3⟩
    · rw [if_neg c]
      exact stp_J x0 x1 r s h hx
theorem bfs_J {l : List Cell} {x : Int} (x0 : 0 ≤ x) (x1 : x < (l.length : Int)) : ∀ (M : Nat) (o q : List Int), J l.length o → o.getD x.toNat 0 = x → J l.length (bfsT l x M o q) ∧ Keep o (bfsT l x M o q)
  | 0, o, q, h, hx => ⟨h, Keep.refl _⟩
  | M + 1, o, [], h, hx => ⟨h, Keep.refl _⟩
  | M + 1, o, e :: r, h, hx => by
    unfold bfsT
    obtain ⟨h1, h2, h3⟩ := stp_J x0 x1 (arn (rd_T35 l e)) (o, r) h hx
    obtain ⟨k1, k2⟩ := bfs_J x0 x1 M _ (stpT l x (arn (rd_T35 l e)) (o, r)).2 h1 h3
    exact ⟨k1, h2.trans k2⟩
theorem out_J {l : List Cell} : ∀ (d : Nat) (o : List Int), d ≤ l.length → J l.length o → J l.length (outT l d o) ∧ Keep o (outT l d o) ∧ ∀ j, l.length - d ≤ j → j < l.length → 0 ≤ (outT l d o).getD j 0
  | 0, o, hd, h => ⟨h, Keep.refl _, fun j h1 h2 => by omega⟩
  | d + 1, o, hd, h => by
    unfold outT
    by_cases c : rd o ((l.length - (d + 1) : Nat) : Int) ≥ 0
    · rw [if_pos c]
      obtain ⟨k1, k2, k3⟩ := out_J d o (by omega) h
      refine ⟨k1, k2, fun j h1 h2 => ?_⟩
      by_cases e : j = l.length - (d + 1)
      · rw [rdI, ← e] at c
        rw [k2.2 j (by rw [h.1]; exact h2) c]
        exact c
      · exact k3 j (by omega) h2
    · rw [if_neg c]
      rw [rdI] at c
      obtain ⟨h1, h2, h3⟩ := J.set h (t := l.length - (d + 1)) (x := ((l.length - (d + 1) : Nat) : Int)) (by omega) (by omega) (by omega) (by omega) (.inl (Int.toNat_natCast _))
      obtain ⟨b1, b2⟩ := bfs_J (l := l) (x := ((l.length - (d + 1) : Nat) : Int)) (by omega) (by omega) (l.length + 1) _ [((l.length - (d + 1) : Nat) : Int)] h1 h3
      obtain ⟨k1, k2, k3⟩ := out_J d _ (by omega) b1
      refine ⟨k1, (h2.trans b2).trans k2, fun j j1 j2 => ?_⟩
      by_cases e : j = l.length - (d + 1)
      · subst e
        have hl : l.length - (d + 1) < o.length := by rw [h.1]; omega
        have e1 := (b2.trans k2).2 (l.length - (d + 1)) (by simpa using hl) (by rw [getD_set_eq o _ _ hl]; omega)
        rw [e1, getD_set_eq o _ _ hl]
        omega
      · exact k3 j (by omega) j2
def prs (l : List Cell) : List Int := outT l l.length (List.replicate l.length (-1))
theorem getD_rep (n j : Nat) (h : j < n) : (List.replicate n (-1 : Int)).getD j 0 = -1 := by
  simp [List.getD_eq_getElem?_getD, h]
theorem prs_len (l : List Cell) : (prs l).length = l.length :=
  (out_J l.length _ (Nat.le_refl _) ⟨by simp, fun j hj => .inl (by rw [getD_rep _ _ hj]; omega)⟩).1.1
theorem prs_root (l : List Cell) : ∀ j, j < l.length → 0 ≤ (prs l).getD j 0 ∧ (prs l).getD j 0 < (l.length : Int) ∧ (prs l).getD ((prs l).getD j 0).toNat 0 = (prs l).getD j 0 := by
  intro j hj
  obtain ⟨h1, h2, h3⟩ := out_J l.length (List.replicate l.length (-1)) (Nat.le_refl _) ⟨by simp, fun j hj => .inl (by rw [getD_rep _ _ hj]; omega)⟩
  have h0 : 0 ≤ (prs l).getD j 0 := h3 j (by omega) hj
  rcases h1.2 j hj with h4 | h4
  · exact absurd h4 (by
      show ¬ (prs l).getD j 0 < 0
      omega)
  · exact ⟨h0, h4⟩
theorem prs_first (c : Cell) (r : List Cell) : (prs (c :: r)).getD 0 0 = 0 := by
  unfold prs
  have hl : (c :: r).length = r.length + 1 := rfl
  rw [hl]
  unfold outT
  have e0 : (c :: r).length - (r.length + 1) = 0 := by rw [hl]; omega
  rw [e0]
  rw [if_neg (by rw [rdI, getD_rep _ _ (by omega)]; omega)]
  have hJ : J (c :: r).length (List.replicate (r.length + 1) (-1)) := ⟨by simp, fun j hj => .inl (by rw [getD_rep _ _ (by rw [hl] at hj; exact hj)]; omega)⟩
  obtain ⟨h1, h2, h3⟩ := J.set hJ (t := 0) (x := ((0 : Nat) : Int)) (by rw [hl]; omega) (by rw [getD_rep _ _ (by omega)]; omega) (by omega) (by rw [hl]; omega) (.inl rfl)
  obtain ⟨b1, b2⟩ := bfs_J (l := c :: r) (x := ((0 : Nat) : Int)) (by omega) (by rw [hl]; omega) ((c :: r).length + 1) _ [((0 : Nat) : Int)] h1 h3
  obtain ⟨k1, k2, k3⟩ := out_J r.length _ (by rw [hl]; omega) b1
  have hz : 0 < (List.replicate (r.length + 1) (-1 : Int)).length := by simp
  have e1 := (b2.trans k2).2 0 (by simp) (by rw [getD_set_eq _ _ _ hz]; omega)
  rw [getD_set_eq _ _ _ hz] at e1
  exact e1
end Go.Proofs.Ytgfpmgmelhbkoaa.Pure
end
section
namespace Go.Proofs.Ytgfpmgmelhbkoaa.Pure
open Go.RowKit Go.Proofs.Ytgfpmgmelhbkoaa Go.Proofs.Ytgfpmgmelhbkoaa.Q Go.Proofs.YtgfpmgmelhbkoaaW.PrintWords
set_option linter.unusedVariables false
set_option linter.unusedSimpArgs false
theorem isCoordinate_eq (x : Int) : impl_isCoordinate.f x = some (Co x) := by
  unfold impl_isCoordinate.f
  rw [within_eq]
  rfl
theorem isNaN_eq (x : Int) : cmp_isNaN_int64.f x = some false := by
  unfold cmp_isNaN_int64.f
  simp
def cmpI (a b : Int) : Int := if a < b then -1 else if a > b then 1 else 0
theorem Compare_eq (a b : Int) : cmp_Compare_int64.f a b = some (cmpI a b) := by
  unfold cmp_Compare_int64.f cmpI
  rw [isNaN_eq, isNaN_eq]
  simp only [Option.bind_some]
  by_cases h1 : a < b
  · simp [h1]
  · by_cases h2 : a > b
    · simp [h1, h2]
    · simp [h1, h2]
def cmpC (a b : Cell) : Int := if cmpI a.f1 b.f1 = 0 then cmpI a.f0 b.f0 else cmpI a.f1 b.f1
theorem compareCells_eq (a b : Cell) : impl_compareCells.f a.f0 a.f1 b.f0 b.f1 = some (cmpC a b) := by
  unfold impl_compareCells.f cmpC
  rw [Compare_eq, Compare_eq]
  simp only [Option.bind_some]
  by_cases h : cmpI a.f1 b.f1 = 0
  · rw [if_pos h, if_pos h]
  · rw [if_neg h, if_neg h]
theorem cmpC_less (a b : Cell) : cmpC a b < 0 ↔ lessC a b = true := by
  unfold cmpC cmpI lessC
  repeat (split)
  all_goals (simp; omega)
theorem impl_IsShape_eq (l : List Cell) (hl : l.length ≤ 9223372036854775807) : Evt (fun k => impl_IsShape.f k l) (Sh l) := by
  unfold impl_IsShape.f
  refine Evt.up (g := fun k i => impl_IsShape.l0 k l l (l.length : Int) (i : Int)) (R := fun i => allF (shOk l) l.length i && decide (1 ≤ l.length ∧ l.length ≤ 40)) (n := l.length) ?_ ?_ 0 (Nat.zero_le _)
  · refine Evt.step (fun k => rfl) ?_
    simp only [impl_IsShape.l0]
    refine Evt.ite_neg (by omega) ?_
    rw [allF_end]
    by_cases h1 : (l.length : Int) ≥ 1
    · refine Evt.ite_pos h1 (Evt.const ?_)
      rw [Bool.true_and]
      congr 1
      exact decide_eq_decide.2 (by omega)
    · refine Evt.ite_neg h1 (Evt.const ?_)
      simp
      omega
  · intro i hi ih
    refine Evt.step (fun k => rfl) ?_
    simp only [impl_IsShape.l0, isCoordinate_eq, Option.bind_some]
    refine Evt.ite_pos (by omega) (Evt.ite_pos (by omega) (Evt.ite_pos (by omega) ?_))
    rw [allF_succ _ hi]
    simp only [rd_getD]
    by_cases hc0 : Co (l.getD i z35).f0 = true
    · refine Evt.ite_pos hc0 ?_
      by_cases hc1 : Co (l.getD i z35).f1 = true
      · refine Evt.ite_pos hc1 ?_
        by_cases h0 : i = 0
        · subst h0
          refine Evt.ite_neg (by omega) ?_
          rw [wrap_succ hi hl]
          have e : shOk l 0 = true := by unfold shOk; rw [hc0, hc1]; rfl
          rw [e, Bool.true_and]
          exact ih
        · refine Evt.ite_pos (by omega) ?_
          have ew : wrap64 ((i : Int) - 1) = ((i - 1 : Nat) : Int) := by rw [w64 (by omega) (by omega)]; omega
          simp only [ew, rd_getD, compareCells_eq, Option.bind_some]
          refine Evt.ite_pos (by omega) (Evt.ite_pos (by omega) ?_)
          rw [wrap_succ hi hl]
          have hiff := cmpC_less (l.getD (i - 1) z35) (l.getD i z35)
          by_cases hls : lessC (l.getD (i - 1) z35) (l.getD i z35) = true
          · refine Evt.ite_neg (by have := hiff.2 hls; omega) ?_
            have e : shOk l i = true := by unfold shOk; rw [hc0, hc1, hls]; simp
            rw [e, Bool.true_and]
            exact ih
          · refine Evt.ite_pos (by rcases Int.lt_or_le (cmpC (l.getD (i - 1) z35) (l.getD i z35)) 0 with h | h; exact absurd (hiff.1 h) hls; exact h) ?_
            have e : shOk l i = false := by unfold shOk; rw [hc0, hc1, Bool.eq_false_iff.mpr hls]; simp [h0]
            rw [e]
            exact Evt.pure
      · refine Evt.ite_neg hc1 ?_
        have e : shOk l i = false := by unfold shOk; rw [Bool.eq_false_iff.mpr hc1]; simp
        rw [e]
        exact Evt.pure
    · refine Evt.ite_neg hc0 ?_
      have e : shOk l i = false := by unfold shOk; rw [Bool.eq_false_iff.mpr hc0]; rfl
      rw [e]
      exact Evt.pure
end Go.Proofs.Ytgfpmgmelhbkoaa.Pure
end
section
namespace Go.Proofs.Ytgfpmgmelhbkoaa.Pure
open Go.RowKit Go.Proofs.Ytgfpmgmelhbkoaa Go.Proofs.Ytgfpmgmelhbkoaa.Q Go.Proofs.YtgfpmgmelhbkoaaW.PrintWords
set_option linter.unusedVariables false
set_option linter.unusedSimpArgs false
def loX (c : Cell) (r : List Cell) : Int := r.foldl (fun a d => mn a d.f0) c.f0
def loY (c : Cell) (r : List Cell) : Int := r.foldl (fun a d => mn a d.f1) c.f1
def hiX (c : Cell) (r : List Cell) : Int := r.foldl (fun a d => mx a d.f0) c.f0
def hiY (c : Cell) (r : List Cell) : Int := r.foldl (fun a d => mx a d.f1) c.f1
theorem mn_self (a : Int) : mn a a = a := by unfold mn; split <;> rfl
theorem mx_self (a : Int) : mx a a = a := by unfold mx; split <;> rfl
theorem rd_at (c : Cell) (r : List Cell) : rd_T35 (c :: r) 0 = c := by
  have := rd_getD (c :: r) 0
  simpa using this
theorem fold_drop {β : Type} (l : List Cell) (i : Nat) (hi : i < l.length) (f : β → Cell → β) (a : β) : (l.drop i).foldl f a = (l.drop (i + 1)).foldl f (f a (l.getD i z35)) := by
  rw [drop_getD l i z35 hi, List.foldl_cons]
theorem least_eq (c : Cell) (r : List Cell) (hl : (c :: r).length ≤ 100000) : Evt (fun k => spec_l02Least.f k (c :: r)) (loX c r, loY c r) := by
  unfold spec_l02Least.f
  refine Evt.ite_pos (by simp) ?_
  rw [rd_at]
  refine Evt.upS (g := fun k i (s : Int × Int) => spec_l02Least.l0 k (c :: r) s.1 s.2 (i : Int)) (R := fun i s => (((c :: r).drop i).foldl (fun a d => mn a d.f0) s.1, ((c :: r).drop i).foldl (fun a d => mn a d.f1) s.2)) (P := fun _ _ => True) (n := (c :: r).length) ?_ ?_ 1 (c.f0, c.f1) (by simp) trivial
  · intro s _
    refine Evt.step (fun k => rfl) ?_
    simp only [spec_l02Least.l0]
    rw [List.drop_length]
    exact Evt.ite_neg (by omega) Evt.pure
  · intro i s hi _ ih
    refine Evt.step (fun k => rfl) ?_
    simp only [spec_l02Least.l0]
    rw [wrap_succ hi (by omega), rd_getD, fold_drop _ i hi, fold_drop _ i hi]
    exact Evt.ite_pos (by omega) (Evt.ite_pos (by omega) (ih (_, _) trivial))
theorem corner_eq (c : Cell) (r : List Cell) (hl : (c :: r).length ≤ 100000) : Evt (fun k => impl_corner.f k (c :: r)) (loX c r, loY c r) := by
  unfold impl_corner.f
  refine Evt.ite_pos (by simp) ?_
  rw [rd_at]
  have key := Evt.upS (g := fun k i (s : Int × Int) => impl_corner.l0 k (c :: r) ((c :: r).length : Int) (i : Int) s.1 s.2) (R := fun i s => (((c :: r).drop i).foldl (fun a d => mn a d.f0) s.1, ((c :: r).drop i).foldl (fun a d => mn a d.f1) s.2)) (P := fun _ _ => True) (n := (c :: r).length) ?_ ?_ 0 (c.f0, c.f1) (Nat.zero_le _) trivial
  · simp only [List.drop_zero, List.foldl_cons, mn_self] at key
    exact key
  · intro s _
    refine Evt.step (fun k => rfl) ?_
    simp only [impl_corner.l0]
    rw [List.drop_length]
    exact Evt.ite_neg (by omega) Evt.pure
  · intro i s hi _ ih
    refine Evt.step (fun k => rfl) ?_
    simp only [impl_corner.l0]
    rw [wrap_succ hi (by omega), rd_getD, fold_drop _ i hi, fold_drop _ i hi]
    exact Evt.ite_pos (by omega) (Evt.ite_pos (by omega) (Evt.ite_pos (by omega) (ih (_, _) trivial)))
theorem reach_eq (c : Cell) (r : List Cell) (hl : (c :: r).length ≤ 100000) : Evt (fun k => impl_reach.f k (c :: r)) (hiX c r, hiY c r) := by
  unfold impl_reach.f
  refine Evt.ite_pos (by simp) ?_
  rw [rd_at]
  have key := Evt.upS (g := fun k i (s : Int × Int) => impl_reach.l0 k (c :: r) ((c :: r).length : Int) (i : Int) s.1 s.2) (R := fun i s => (((c :: r).drop i).foldl (fun a d => mx a d.f0) s.1, ((c :: r).drop i).foldl (fun a d => mx a d.f1) s.2)) (P := fun _ _ => True) (n := (c :: r).length) ?_ ?_ 0 (c.f0, c.f1) (Nat.zero_le _) trivial
  · simp only [List.drop_zero, List.foldl_cons, mx_self] at key
    exact key
  · intro s _
    refine Evt.step (fun k => rfl) ?_
    simp only [impl_reach.l0]
    rw [List.drop_length]
    exact Evt.ite_neg (by omega) Evt.pure
  · intro i s hi _ ih
    refine Evt.step (fun k => rfl) ?_
    simp only [impl_reach.l0]
    rw [wrap_succ hi (by omega), rd_getD, fold_drop _ i hi, fold_drop _ i hi]
    exact Evt.ite_pos (by omega) (Evt.ite_pos (by omega) (Evt.ite_pos (by omega) (ih (_, _) trivial)))
theorem mn_in {a b lo hi : Int} (h1 : lo ≤ a ∧ a ≤ hi) (h2 : lo ≤ b ∧ b ≤ hi) : (lo ≤ mn a b ∧ mn a b ≤ hi) ∧ mn a b ≤ a := by
  unfold mn
  split <;> omega
theorem mx_in {a b lo hi : Int} (h1 : lo ≤ a ∧ a ≤ hi) (h2 : lo ≤ b ∧ b ≤ hi) : (lo ≤ mx a b ∧ mx a b ≤ hi) ∧ a ≤ mx a b := by
  unfold mx
  split <;> omega
theorem fold_mn {lo hi : Int} (f : Cell → Int) : ∀ (r : List Cell) (a : Int), (lo ≤ a ∧ a ≤ hi) → (∀ d ∈ r, lo ≤ f d ∧ f d ≤ hi) → (lo ≤ r.foldl (fun a d => mn a (f d)) a ∧ r.foldl (fun a d => mn a (f d)) a ≤ hi) ∧ r.foldl (fun a d => mn a (f d)) a ≤ a
  | [], a, h, _ => ⟨h, Int.le_refl _⟩
  | d :: r, a, h, hr => by
    obtain ⟨h1, h2⟩ := mn_in h (hr d List.mem_cons_self)
    obtain ⟨h3, h4⟩ := fold_mn f r _ h1 (fun e he => hr e (List.mem_cons_of_mem _ he))
    exact ⟨h3, by rw [List.foldl_cons]; omega⟩
theorem fold_mx {lo hi : Int} (f : Cell → Int) : ∀ (r : List Cell) (a : Int), (lo ≤ a ∧ a ≤ hi) → (∀ d ∈ r, lo ≤ f d ∧ f d ≤ hi) → (lo ≤ r.foldl (fun a d => mx a (f d)) a ∧ r.foldl (fun a d => mx a (f d)) a ≤ hi) ∧ a ≤ r.foldl (fun a d => mx a (f d)) a
  | [], a, h, _ => ⟨h, Int.le_refl _⟩
  | d :: r, a, h, hr => by
    obtain ⟨h1, h2⟩ := mx_in h (hr d List.mem_cons_self)
    obtain ⟨h3, h4⟩ := fold_mx f r _ h1 (fun e he => hr e (List.mem_cons_of_mem _ he))
    exact ⟨h3, by rw [List.foldl_cons]; omega⟩
theorem fold_shift (f : Cell → Int) (x : Int) : ∀ (r : List Cell) (a : Int), r.foldl (fun a d => mx a (f d - x + 1)) (a - x + 1) = r.foldl (fun a d => mx a (f d)) a - x + 1
  | [], a => rfl
  | d :: r, a => by
    rw [List.foldl_cons, List.foldl_cons, ← fold_shift f x r (mx a (f d))]
    congr 1
    unfold mx
    by_cases h : a < f d
    · rw [if_pos h, if_pos (by omega)]
    · rw [if_neg h, if_neg (by omega)]
def Sml (l : List Cell) : Prop := ∀ c ∈ l, (-100 ≤ c.f0 ∧ c.f0 ≤ 100) ∧ -100 ≤ c.f1 ∧ c.f1 ≤ 100
theorem box_in {c : Cell} {r : List Cell} (h : Sml (c :: r)) : ((-100 ≤ loX c r ∧ loX c r ≤ c.f0) ∧ -100 ≤ loY c r ∧ loY c r ≤ c.f1) ∧ (c.f0 ≤ hiX c r ∧ hiX c r ≤ 100) ∧ c.f1 ≤ hiY c r ∧ hiY c r ≤ 100 := by
  have hc := h c List.mem_cons_self
  have a1 := fold_mn (lo := -100) (hi := 100) (fun d => d.f0) r c.f0 hc.1 (fun d hd => (h d (List.mem_cons_of_mem _ hd)).1)
  have a2 := fold_mn (lo := -100) (hi := 100) (fun d => d.f1) r c.f1 hc.2 (fun d hd => (h d (List.mem_cons_of_mem _ hd)).2)
  have a3 := fold_mx (lo := -100) (hi := 100) (fun d => d.f0) r c.f0 hc.1 (fun d hd => (h d (List.mem_cons_of_mem _ hd)).1)
  have a4 := fold_mx (lo := -100) (hi := 100) (fun d => d.f1) r c.f1 hc.2 (fun d hd => (h d (List.mem_cons_of_mem _ hd)).2)
  unfold loX loY hiX hiY
  omega
theorem size_eq (c : Cell) (r : List Cell) (hl : (c :: r).length ≤ 100000) (h : Sml (c :: r)) : Evt (fun k => spec_l04Size.f k (c :: r)) (hiX c r - loX c r + 1, hiY c r - loY c r + 1) := by
  unfold spec_l04Size.f
  refine (least_eq c r hl).bind ?_
  simp only
  have hb := box_in h
  have hc := h c List.mem_cons_self
  generalize loX c r = x at hb ⊢
  generalize loY c r = y at hb ⊢
  have key := Evt.upS (g := fun k i (s : Int × Int) => spec_l04Size.l0 k (c :: r) x y s.1 s.2 (i : Int)) (R := fun i s => (((c :: r).drop i).foldl (fun a d => mx a (d.f0 - x + 1)) s.1, ((c :: r).drop i).foldl (fun a d => mx a (d.f1 - y + 1)) s.2)) (P := fun _ _ => True) (n := (c :: r).length) ?_ ?_ 0 (0, 0) (Nat.zero_le _) trivial
  · simp only [List.drop_zero, List.foldl_cons] at key
    rw [show mx 0 (c.f0 - x + 1) = c.f0 - x + 1 by unfold mx; rw [if_pos (by omega)], show mx 0 (c.f1 - y + 1) = c.f1 - y + 1 by unfold mx; rw [if_pos (by omega)], fold_shift (fun d => d.f0) x r c.f0, fold_shift (fun d => d.f1) y r c.f1] at key
    exact key
  · intro s _
    refine Evt.step (fun k => rfl) ?_
    simp only [spec_l04Size.l0]
    rw [List.drop_length]
    exact Evt.ite_neg (by omega) Evt.pure
  · intro i s hi _ ih
    refine Evt.step (fun k => rfl) ?_
    simp only [spec_l04Size.l0]
    have hd := h _ (show (c :: r).getD i z35 ∈ c :: r by simp only [List.getD_eq_getElem?_getD, List.getElem?_eq_getElem hi, Option.getD_some]; exact List.getElem_mem hi)
    rw [wrap_succ hi (by omega), rd_getD, fold_drop _ i hi, fold_drop _ i hi]
    generalize (c :: r).getD i z35 = d at hd ⊢
    rw [w64 (n := d.f0 - x) (by omega) (by omega), w64 (n := d.f1 - y) (by omega) (by omega), w64 (n := d.f0 - x + 1) (by omega) (by omega), w64 (n := d.f1 - y + 1) (by omega) (by omega)]
    exact Evt.ite_pos (by omega) (Evt.ite_pos (by omega) (ih (_, _) trivial))
theorem move_eq (l : List Cell) (a b : Int) (hl : l.length ≤ 100000) : Evt (fun k => spec_l02Move.f k l a b) (l.map (impl_moved.g a b)) := by
  unfold spec_l02Move.f
  have key := Evt.upS (g := fun k i (s : List Cell) => spec_l02Move.l0 k l a b s (i : Int)) (R := fun i s => s ++ (l.drop i).map (impl_moved.g a b)) (P := fun i s => s.length = i) (n := l.length) ?_ ?_ 0 [] (Nat.zero_le _) rfl
  · simpa using key
  · intro s hs
    refine Evt.step (fun k => rfl) ?_
    simp only [spec_l02Move.l0]
    rw [List.drop_length, List.map_nil, List.append_nil]
    exact Evt.ite_neg (by omega) Evt.pure
  · intro i s hi hs ih
    refine Evt.step (fun k => rfl) ?_
    simp only [spec_l02Move.l0]
    rw [wrap_succ hi (by omega), rd_getD, drop_getD l i z35 hi, List.map_cons]
    have h := ih (s ++ [impl_moved.g a b (l.getD i z35)]) (by rw [List.length_append, List.length_singleton, hs])
    rw [List.append_assoc, List.singleton_append] at h
    exact Evt.ite_pos (by omega) (Evt.ite_pos (by omega) (Evt.ite_pos (by omega) h))
theorem ite_out {b : Bool} {x y : Int} : Evt (fun _ => if b = true then some x else some y) (if b = true then x else y) := by
  cases b <;> exact Evt.pure
theorem code_both (l : List Cell) (h : Sh l = true) : ∃ e, Evt (fun k => spec_l03Code.f k l) e ∧ Evt (fun k => impl_shapeCode.f k l) e := by
  have hl := Sh_len h
  cases l with
  | nil => simp at hl
  | cons c r =>
    have hlen : (c :: r).length ≤ 100000 := by omega
    refine ⟨if Sh ((c :: r).map (impl_moved.g (wrap64 (-(loX c r))) (wrap64 (-(loY c r))))) = true then 0 else 3, ?_, ?_⟩
    · unfold spec_l03Code.f spec_l02Normal.f
      refine (spec_IsShape_eq (c :: r) (by omega)).bind (Evt.ite_pos h ?_)
      refine (((least_eq c r hlen).bind ((move_eq (c :: r) _ _ hlen).bind Evt.pure)).bind ?_)
      exact (spec_IsShape_eq _ (by rw [List.length_map]; omega)).bind ite_out
    · unfold impl_shapeCode.f impl_normal.f
      refine (impl_IsShape_eq (c :: r) (by omega)).bind (Evt.ite_pos h ?_)
      have hm : impl_moved.f (c :: r) (wrap64 (-(loX c r))) (wrap64 (-(loY c r))) = some ((c :: r).map (impl_moved.g (wrap64 (-(loX c r))) (wrap64 (-(loY c r))))) := by
        unfold impl_moved.f
        exact if_pos (by omega)
      refine (((corner_eq c r hlen).bind ((Evt.const hm).bind Evt.pure)).bind ?_)
      exact (impl_IsShape_eq _ (by rw [List.length_map]; omega)).bind ite_out
end Go.Proofs.Ytgfpmgmelhbkoaa.Pure
end
section
namespace Go.Proofs.Ytgfpmgmelhbkoaa.Pure
open Go.RowKit Go.Proofs.Ytgfpmgmelhbkoaa Go.Proofs.Ytgfpmgmelhbkoaa.Q Go.Proofs.YtgfpmgmelhbkoaaW.PrintWords
set_option linter.unusedVariables false
set_option linter.unusedSimpArgs false
theorem implIndex_eq (l : List Cell) (x y : Int) (hl : l.length ≤ 9223372036854775807) : Evt (fun k => impl_Cell_36.f k l x y) (ixAt (x, y) 0 l) := by
  unfold impl_Cell_36.f
  refine Evt.up (g := fun k i => impl_Cell_36.l0 k l (l.length : Int) (i : Int) x y) (R := fun i => ixAt (x, y) i (l.drop i)) (n := l.length) ?_ ?_ 0 (Nat.zero_le _)
  · refine Evt.step (fun k => rfl) ?_
    simp only [impl_Cell_36.l0]
    rw [List.drop_length]
    exact Evt.ite_neg (by omega) Evt.pure
  · intro i hi ih
    refine Evt.step (fun k => rfl) ?_
    simp only [impl_Cell_36.l0]
    rw [wrap_succ hi (by omega), rd_getD, drop_getD l i z35 hi]
    rw [show ixAt (x, y) i (l.getD i z35 :: l.drop (i + 1)) = (if (l.getD i z35).f0 = x ∧ (l.getD i z35).f1 = y then (i : Int) else ixAt (x, y) (i + 1) (l.drop (i + 1))) from rfl]
    refine Evt.ite_pos (by omega) (Evt.ite_pos (by omega) (Evt.ite_pos (by omega) ?_))
    by_cases h : (l.getD i z35).f0 = x ∧ (l.getD i z35).f1 = y
    · rw [if_pos h]
      exact Evt.ite_pos (by rw [h.1, h.2]; simp) Evt.pure
    · rw [if_neg h]
      exact Evt.ite_neg (fun c => h (by simp at c; exact ⟨c.1.symm, c.2.symm⟩)) ih
def hs (l : List Cell) (x y : Int) : Bool := decide (ixAt (x, y) 0 l ≥ 0)
theorem contains_eq (l : List Cell) (x y : Int) (hl : l.length ≤ 9223372036854775807) : Evt (fun k => impl_Cell_19.f k l x y) (hs l x y) := by
  unfold impl_Cell_19.f
  exact (implIndex_eq l x y hl).bind Evt.pure
def frRow (l : List Cell) (y : Int) : Nat → Int → List Cell → List Cell
  | 0, _, f => f
  | n + 1, x, f => frRow l y n (x + 1) (if hs l x y = true then f else f ++ [⟨x, y⟩])
def frAll (l : List Cell) (w : Nat) (x0 : Int) : Nat → Int → List Cell → List Cell
  | 0, _, f => f
  | m + 1, y, f => frAll l w x0 m (y + 1) (frRow l y w x0 f)
theorem frRow_len (l : List Cell) (y : Int) : ∀ n x f, (frRow l y n x f).length ≤ f.length + n
  | 0, x, f => Nat.le_refl _
  | n + 1, x, f => by
    unfold frRow
    have := frRow_len l y n (x + 1) (if hs l x y = true then f else f ++ [⟨x, y⟩])
    by_cases c : hs l x y = true
    · rw [if_pos c] at this ⊢; omega
    · rw [if_neg c] at this ⊢; rw [List.length_append, List.length_singleton] at this; omega
theorem frAll_len (l : List Cell) (w : Nat) (x0 : Int) : ∀ m y f, (frAll l w x0 m y f).length ≤ f.length + m * w
  | 0, y, f => by unfold frAll; omega
  | m + 1, y, f => by
    unfold frAll
    have h1 := frAll_len l w x0 m (y + 1) (frRow l y w x0 f)
    have h2 := frRow_len l y w x0 f
    rw [Nat.add_mul, Nat.one_mul]
    omega
theorem impl_row (l : List Cell) (hl : l.length ≤ 100000) (y xe : Int) : ∀ (n : Nat) (x : Int) (f : List Cell), x + (n : Int) = xe + 1 → f.length + n ≤ 1000000 → ∃ K, ∀ k, K ≤ k → ∀ m, n + 1 ≤ m → impl_holes.row k l y xe m x f = some (frRow l y n x f)
  | 0, x, f, hx, hf => ⟨0, fun k _ m hm => by
      obtain ⟨m', rfl⟩ : ∃ m', m = m' + 1 := ⟨m - 1, by omega⟩
      simp only [impl_holes.row]
      rw [if_neg (by omega)]
      rfl⟩
  | n + 1, x, f, hx, hf => by
    obtain ⟨K1, h1'⟩ := contains_eq l x y (by omega)
    have h1 : ∀ k, K1 ≤ k → impl_Cell_19.f k l x y = some (hs l x y) := h1'
    obtain ⟨K2, h2⟩ := impl_row l hl y xe n (x + 1) (if hs l x y = true then f else f ++ [⟨x, y⟩]) (by omega) (by
      by_cases c : hs l x y = true
      · rw [if_pos c]; omega
      · rw [if_neg c, List.length_append, List.length_singleton]; omega)
    refine ⟨K1 + K2, fun k hk m hm => ?_⟩
    obtain ⟨m', rfl⟩ : ∃ m', m = m' + 1 := ⟨m - 1, by omega⟩
    simp only [impl_holes.row]
    rw [if_pos (by omega), h1 k (by omega)]
    simp only [Option.bind_some]
    rw [if_pos (by omega), h2 k (by omega) m' (by omega)]
    rfl
theorem impl_rows (l : List Cell) (hl : l.length ≤ 100000) (x0 xe ye : Int) (w : Nat) (hw : x0 + (w : Int) = xe + 1) : ∀ (m : Nat) (y : Int) (f : List Cell), y + (m : Int) = ye + 1 → f.length + m * w ≤ 1000000 → ∃ K, ∀ k, K ≤ k → ∀ n, m + 1 ≤ n → impl_holes.rows k l x0 xe ye n y f = some (frAll l w x0 m y f)
  | 0, y, f, hy, hf => ⟨0, fun k _ n hn => by
      obtain ⟨n', rfl⟩ : ∃ n', n = n' + 1 := ⟨n - 1, by omega⟩
      simp only [impl_holes.rows]
      rw [if_neg (by omega)]
      rfl⟩
  | m + 1, y, f, hy, hf => by
    rw [Nat.add_mul, Nat.one_mul] at hf
    obtain ⟨K1, h1⟩ := impl_row l hl y xe w x0 f hw (by omega)
    have hlen := frRow_len l y w x0 f
    obtain ⟨K2, h2⟩ := impl_rows l hl x0 xe ye w hw m (y + 1) (frRow l y w x0 f) (by omega) (by omega)
    refine ⟨K1 + K2 + w + 1, fun k hk n hn => ?_⟩
    obtain ⟨n', rfl⟩ : ∃ n', n = n' + 1 := ⟨n - 1, by omega⟩
    simp only [impl_holes.rows]
    rw [if_pos (by omega), h1 k (by omega) k (by omega)]
    simp only [Option.bind_some]
    rw [h2 k (by omega) n' (by omega)]
    rfl
theorem hs_iff (l : List Cell) (x y : Int) : hs l x y = true ↔ ¬ ixAt (x, y) 0 l < 0 := by
  unfold hs
  rw [decide_eq_true_eq]
  omega
theorem spec_row (l : List Cell) (hl : l.length ≤ 100000) (x3 x4 x5 x6 : Int) (y : Int) (hb : -1000 ≤ x3 ∧ x3 ≤ 1000) (hb5 : 0 ≤ x5 ∧ x5 ≤ 1000) {R : List (List Cell)} : ∀ (n : Nat) (x : Int) (f : List Cell), x + (n : Int) = x3 + x5 + 1 → -2000 ≤ x → f.length + n ≤ 1000000 →
    Evt (fun k => spec_l06Holes.l0 k l x3 x4 x5 x6 (frRow l y n x f) (wrap64 (y + 1))) R → Evt (fun k => spec_l06Holes.l1 k l x3 x4 x5 x6 f y x) R
  | 0, x, f, hx, h0, hf, cont => by
    refine Evt.step (fun k => rfl) ?_
    simp only [spec_l06Holes.l1]
    rw [w64 (n := x3 + x5) (by omega) (by omega)]
    exact Evt.ite_neg (by omega) cont
  | n + 1, x, f, hx, h0, hf, cont => by
    refine Evt.step (fun k => rfl) ?_
    simp only [spec_l06Holes.l1]
    rw [w64 (n := x3 + x5) (by omega) (by omega), w64 (n := x + 1) (by omega) (by omega)]
    refine Evt.ite_pos (by omega) ((l02Index_eq l x y (by omega)).bind ?_)
    unfold frRow at cont
    by_cases c : ixAt (x, y) 0 l < 0
    · rw [if_neg (fun h => (hs_iff l x y).1 h c)] at cont
      exact Evt.ite_pos c (Evt.ite_pos (by omega) (spec_row l hl x3 x4 x5 x6 y hb hb5 n (x + 1) _ (by omega) (by omega) (by rw [List.length_append, List.length_singleton]; omega) cont))
    · rw [if_pos ((hs_iff l x y).2 c)] at cont
      exact Evt.ite_neg c (spec_row l hl x3 x4 x5 x6 y hb hb5 n (x + 1) f (by omega) (by omega) (by omega) cont)
theorem spec_rows (l : List Cell) (hl : l.length ≤ 100000) (x3 x4 x5 x6 : Int) (hb : -1000 ≤ x3 ∧ x3 ≤ 1000) (hb5 : 0 ≤ x5 ∧ x5 ≤ 1000) (hb4 : -1000 ≤ x4 ∧ x4 ≤ 1000) (hb6 : 0 ≤ x6 ∧ x6 ≤ 1000) (w : Nat) (hw : x3 - 1 + (w : Int) = x3 + x5 + 1) {R : List (List Cell)} : ∀ (m : Nat) (y : Int) (f : List Cell), y + (m : Int) = x4 + x6 + 1 → -2000 ≤ y → f.length + m * w ≤ 1000000 →
    Evt (fun k => (spec_l02Parts.f k (frAll l w (x3 - 1) m y f)).bind fun t => spec_l06Holes.l2 k (frAll l w (x3 - 1) m y f) t [] 1) R → Evt (fun k => spec_l06Holes.l0 k l x3 x4 x5 x6 f y) R
  | 0, y, f, hy, h0, hf, cont => by
    refine Evt.step (fun k => rfl) ?_
    simp only [spec_l06Holes.l0]
    rw [w64 (n := x4 + x6) (by omega) (by omega)]
    exact Evt.ite_neg (by omega) cont
  | m + 1, y, f, hy, h0, hf, cont => by
    rw [Nat.add_mul, Nat.one_mul] at hf
    refine Evt.step (fun k => rfl) ?_
    simp only [spec_l06Holes.l0]
    rw [w64 (n := x4 + x6) (by omega) (by omega), w64 (n := x3 - 1) (by omega) (by omega)]
    have hlen := frRow_len l y w (x3 - 1) f
    refine Evt.ite_pos (by omega) (spec_row l hl x3 x4 x5 x6 y hb hb5 w (x3 - 1) f (by omega) (by omega) (by omega) ?_)
    rw [w64 (n := y + 1) (by omega) (by omega)]
    exact spec_rows l hl x3 x4 x5 x6 hb hb5 hb4 hb6 w hw m (y + 1) _ (by omega) (by omega) (by omega) cont
def Bef (x y : Int) (f : List Cell) : Prop := f.Nodup ∧ ∀ c ∈ f, (c.f1 < y ∨ (c.f1 = y ∧ c.f0 < x)) ∧ (-2000 ≤ c.f0 ∧ c.f0 ≤ 2000) ∧ -2000 ≤ c.f1 ∧ c.f1 ≤ 2000
theorem frRow_bef (l : List Cell) (y : Int) (hy : -2000 ≤ y ∧ y ≤ 2000) : ∀ (n : Nat) (x : Int) (f : List Cell), -2000 ≤ x → x + (n : Int) ≤ 2000 → Bef x y f → Bef (x + (n : Int)) y (frRow l y n x f)
  | 0, x, f, h0, h1, h => by simpa [frRow] using h
  | n + 1, x, f, h0, h1, h => by
    unfold frRow
    have e : x + ((n + 1 : Nat) : Int) = (x + 1) + (n : Int) := by omega
    rw [e]
    refine frRow_bef l y hy n (x + 1) _ (by omega) (by omega) ?_
    have hm : Bef (x + 1) y f := ⟨h.1, fun c hc => by have := h.2 c hc; omega⟩
    by_cases c : hs l x y = true
    · rw [if_pos c]; exact hm
    · rw [if_neg c]
      refine ⟨List.nodup_append.2 ⟨h.1, by simp, fun a ha b hb => ?_⟩, fun d hd => ?_⟩
      · rw [List.mem_singleton.1 hb]
        intro e2
        have h3 := (h.2 a ha).1
        have e3 : a.f0 = x := by rw [e2]
        have e4 : a.f1 = y := by rw [e2]
        omega
      · rcases List.mem_append.1 hd with hd | hd
        · exact hm.2 d hd
        · have e2 := List.mem_singleton.1 hd
          have e3 : d.f0 = x := by rw [e2]
          have e4 : d.f1 = y := by rw [e2]
          omega
theorem frAll_bef (l : List Cell) (w : Nat) (x0 : Int) (h0 : -2000 ≤ x0) (h1 : x0 + (w : Int) ≤ 2000) : ∀ (m : Nat) (y : Int) (f : List Cell), -2000 ≤ y → y + (m : Int) ≤ 2000 → Bef x0 y f → Bef x0 (y + (m : Int)) (frAll l w x0 m y f)
  | 0, y, f, _, _, h => by simpa [frAll] using h
  | m + 1, y, f, hy0, hy1, h => by
    unfold frAll
    have e : y + ((m + 1 : Nat) : Int) = (y + 1) + (m : Int) := by omega
    rw [e]
    have h2 := frRow_bef l y (by omega) w x0 f h0 h1 h
    exact frAll_bef l w x0 h0 h1 m (y + 1) _ (by omega) (by omega) ⟨h2.1, fun c hc => by have := h2.2 c hc; omega⟩
theorem frRow_mono (l : List Cell) (y : Int) : ∀ (n : Nat) (x : Int) (f : List Cell), f ≠ [] → frRow l y n x f ≠ []
  | 0, x, f, h => h
  | n + 1, x, f, h => by
    unfold frRow
    refine frRow_mono l y n (x + 1) _ ?_
    by_cases c : hs l x y = true
    · rw [if_pos c]; exact h
    · rw [if_neg c]; simp
theorem frAll_mono (l : List Cell) (w : Nat) (x0 : Int) : ∀ (m : Nat) (y : Int) (f : List Cell), f ≠ [] → frAll l w x0 m y f ≠ []
  | 0, y, f, h => h
  | m + 1, y, f, h => by
    unfold frAll
    exact frAll_mono l w x0 m (y + 1) _ (frRow_mono l y w x0 f h)
end Go.Proofs.Ytgfpmgmelhbkoaa.Pure
end
section
namespace Go.Proofs.Ytgfpmgmelhbkoaa.Pure
open Go.RowKit Go.Proofs.Ytgfpmgmelhbkoaa Go.Proofs.Ytgfpmgmelhbkoaa.Q Go.Proofs.YtgfpmgmelhbkoaaW.PrintWords
set_option linter.unusedVariables false
set_option linter.unusedSimpArgs false
theorem sh_less {l : List Cell} (h : Sh l = true) : ∀ (d i : Nat), i + d + 1 < l.length → lessC (l.getD i z35) (l.getD (i + d + 1) z35) = true := by
  unfold Sh at h
  rw [Bool.and_eq_true] at h
  have h1 := allF_true.1 h.1
  have step : ∀ j, j + 1 < l.length → lessC (l.getD j z35) (l.getD (j + 1) z35) = true := by
    intro j hj
    have h2 := h1 (j + 1) (Nat.zero_le _) hj
    unfold shOk at h2
    simp only [Bool.and_eq_true, Bool.or_eq_true, decide_eq_true_eq] at h2
    rcases h2.2 with h3 | h3
    · omega
    · simpa using h3
  intro d
  induction d with
  | zero => intro i hi; exact step i (by omega)
  | succ d ih =>
    intro i hi
    have a := ih i (by omega)
    have b := step (i + d + 1) (by omega)
    rw [show i + (d + 1) + 1 = i + d + 1 + 1 by omega]
    unfold lessC at *
    simp only [Bool.or_eq_true, Bool.and_eq_true, decide_eq_true_eq] at *
    omega
theorem sh_nodup {l : List Cell} (h : Sh l = true) : l.Nodup := by
  rw [List.Nodup, List.pairwise_iff_getElem]
  intro i j hi hj hij e
  have h1 := sh_less h (j - i - 1) i (by omega)
  rw [show i + (j - i - 1) + 1 = j by omega] at h1
  simp only [List.getD_eq_getElem?_getD, List.getElem?_eq_getElem hi, List.getElem?_eq_getElem hj, Option.getD_some, e] at h1
  unfold lessC at h1
  simp at h1
theorem sh_in {l : List Cell} (h : Sh l = true) : In 1000000 l := fun c hc => by
  have := Sh_co h c hc
  omega
theorem one_eq (p : List Int) (hp : p.length ≤ 100000) : Evt (fun k => spec_l02One.f k p) (p.all fun x => decide (x = 0)) := by
  unfold spec_l02One.f
  refine Evt.up (g := fun k i => spec_l02One.l0 k p (i : Int)) (R := fun i => (p.drop i).all fun x => decide (x = 0)) (n := p.length) ?_ ?_ 0 (Nat.zero_le _)
  · refine Evt.step (fun k => rfl) ?_
    simp only [spec_l02One.l0]
    rw [List.drop_length]
    exact Evt.ite_neg (by omega) Evt.pure
  · intro i hi ih
    refine Evt.step (fun k => rfl) ?_
    simp only [spec_l02One.l0]
    rw [wrap_succ hi (by omega), rdI, drop_getD p i 0 hi, List.all_cons]
    refine Evt.ite_pos (by omega) (Evt.ite_pos (by omega) ?_)
    by_cases h : p.getD i 0 = 0
    · rw [decide_eq_true h, Bool.true_and]
      exact Evt.ite_pos h ih
    · rw [decide_eq_false h, Bool.false_and]
      exact Evt.ite_neg h Evt.pure
theorem mxs_zero : ∀ (r : List Int) (x : Int), 0 ≤ x → (∀ y ∈ r, 0 ≤ y) → (impl_IsConnected.mxs x r = 0 ↔ x = 0 ∧ ∀ y ∈ r, y = 0)
  | [], x, h, _ => by simp [impl_IsConnected.mxs]
  | y :: r, x, h, hr => by
    have hy := hr y List.mem_cons_self
    unfold impl_IsConnected.mxs
    have hm : 0 ≤ mx x y ∧ (mx x y = 0 ↔ x = 0 ∧ y = 0) := by unfold mx; split <;> omega
    rw [mxs_zero r (mx x y) hm.1 (fun z hz => hr z (List.mem_cons_of_mem _ hz)), hm.2]
    constructor
    · rintro ⟨⟨h1, h2⟩, h3⟩
      exact ⟨h1, fun z hz => by rcases List.mem_cons.1 hz with e | e; exact e ▸ h2; exact h3 z e⟩
    · rintro ⟨h1, h2⟩
      exact ⟨⟨h1, h2 y List.mem_cons_self⟩, fun z hz => h2 z (List.mem_cons_of_mem _ hz)⟩
theorem prs_nonneg (l : List Cell) : ∀ y ∈ prs l, 0 ≤ y := by
  intro y hy
  obtain ⟨j, hj, rfl⟩ := List.getElem_of_mem hy
  have := (prs_root l j (by rw [← prs_len]; exact hj)).1
  simpa [List.getD_eq_getElem?_getD, List.getElem?_eq_getElem hj] using this
theorem conn_both (l : List Cell) (hl : l.length ≤ 1048576) : ∃ b, Evt (fun k => spec_IsConnected.f k l) b ∧ Evt (fun k => impl_IsConnected.f k l) b ∧ (b = true → Sh l = true) := by
  by_cases hs : Sh l = true
  · refine ⟨(prs l).all fun x => decide (x = 0), ?_, ?_, fun _ => hs⟩
    · unfold spec_IsConnected.f
      refine (spec_IsShape_eq l (by omega)).bind (Evt.ite_pos hs ?_)
      have h40 := Sh_len hs
      refine (spec_parts (l := l) (by omega)).bind ((one_eq _ ?_).bind Evt.pure)
      have := prs_len l
      unfold prs at this
      omega
    · unfold impl_IsConnected.f
      refine (impl_IsShape_eq l (by omega)).bind (Evt.ite_pos hs ?_)
      have h40 := Sh_len hs
      refine (impl_parts_eq (l := l) (by omega) (sh_nodup hs) (sh_in hs)).bind ?_
      have hlen := prs_len l
      have hnn := prs_nonneg l
      rw [show outT l l.length (List.replicate l.length (-1)) = prs l from rfl]
      generalize prs l = p at hlen hnn
      cases p with
      | nil => simp at hlen; omega
      | cons x r =>
        refine Evt.const ?_
        simp only
        congr 1
        have e := mxs_zero r x (hnn x List.mem_cons_self) (fun y hy => hnn y (List.mem_cons_of_mem _ hy))
        rw [Bool.eq_iff_iff, decide_eq_true_eq, e]
        simp
  · refine ⟨false, ?_, ?_, fun h => by simp at h⟩
    · unfold spec_IsConnected.f
      exact (spec_IsShape_eq l (by omega)).bind (Evt.ite_neg hs Evt.pure)
    · unfold impl_IsConnected.f
      exact (impl_IsShape_eq l (by omega)).bind (Evt.ite_neg hs Evt.pure)
section
variable {fr : List Cell} {p : List Int} (hp : p.length = fr.length) (hl : fr.length ≤ 100000)
include hp hl
theorem sp_l3 (out : List (List Cell)) (i : Int) (ho : out.length ≤ 1000000) (Q : List (List Cell) → Prop) (cont : ∀ h', ∃ g, Evt (fun k => spec_l06Holes.l2 k fr p (out ++ [h']) (wrap64 (i + 1))) g ∧ Q g) :
    ∀ (d : Nat) (h : List Cell), d ≤ fr.length → h.length + d ≤ 1000000 → ∃ g, Evt (fun k => spec_l06Holes.l3 k fr p out i h ((fr.length - d : Nat) : Int)) g ∧ Q g
  | 0, h, hd, hh => by
    obtain ⟨g, h1, h2⟩ := cont h
    refine ⟨g, Evt.step (fun k => rfl) ?_, h2⟩
    simp only [spec_l06Holes.l3]
    exact Evt.ite_neg (by omega) (Evt.ite_pos (by omega) h1)
  | d + 1, h, hd, hh => by
    have hw : wrap64 (((fr.length - (d + 1) : Nat) : Int) + 1) = ((fr.length - d : Nat) : Int) := by
      rw [wrap_succ (n := fr.length) (by omega) (by omega)]
      omega
    by_cases c : rd p ((fr.length - (d + 1) : Nat) : Int) = i
    · obtain ⟨g, h1, h2⟩ := sp_l3 out i ho Q cont d (h ++ [⟨(rd_T35 fr ((fr.length - (d + 1) : Nat) : Int)).f0, (rd_T35 fr ((fr.length - (d + 1) : Nat) : Int)).f1⟩]) (by omega) (by rw [List.length_append, List.length_singleton]; omega)
      refine ⟨g, Evt.step (fun k => rfl) ?_, h2⟩
      simp only [spec_l06Holes.l3]
      rw [hw]
      exact Evt.ite_pos (by omega) (Evt.ite_pos (by omega) (Evt.ite_pos (by omega) (Evt.ite_pos c (Evt.ite_pos (by omega) h1))))
    · obtain ⟨g, h1, h2⟩ := sp_l3 out i ho Q cont d h (by omega) (by omega)
      refine ⟨g, Evt.step (fun k => rfl) ?_, h2⟩
      simp only [spec_l06Holes.l3]
      rw [hw]
      exact Evt.ite_pos (by omega) (Evt.ite_pos (by omega) (Evt.ite_pos (by omega) (Evt.ite_neg c h1)))
theorem sp_l2 : ∀ (d : Nat) (out : List (List Cell)), d ≤ fr.length → out.length + d ≤ 1000000 → ∃ g, Evt (fun k => spec_l06Holes.l2 k fr p out ((fr.length - d : Nat) : Int)) g ∧ (g = [] ↔ out = [] ∧ ∀ j, fr.length - d ≤ j → j < fr.length → p.getD j 0 ≠ (j : Int))
  | 0, out, hd, ho => by
    refine ⟨out, Evt.step (fun k => rfl) ?_, ⟨fun h => ⟨h, fun j h1 h2 => by omega⟩, fun h => h.1⟩⟩
    simp only [spec_l06Holes.l2]
    exact Evt.ite_neg (by omega) Evt.pure
  | d + 1, out, hd, ho => by
    have hw : wrap64 (((fr.length - (d + 1) : Nat) : Int) + 1) = ((fr.length - d : Nat) : Int) := by
      rw [wrap_succ (n := fr.length) (by omega) (by omega)]
      omega
    by_cases c : rd p ((fr.length - (d + 1) : Nat) : Int) = ((fr.length - (d + 1) : Nat) : Int)
    · obtain ⟨g, h1, h2⟩ := sp_l3 hp hl out ((fr.length - (d + 1) : Nat) : Int) (by omega) (fun g => g ≠ []) (fun h' => by
        obtain ⟨g, h1, h2⟩ := sp_l2 d (out ++ [h']) (by omega) (by rw [List.length_append, List.length_singleton]; omega)
        refine ⟨g, by rw [hw]; exact h1, fun e => ?_⟩
        have := (h2.1 e).1
        simp at this) (d + 1) [] hd (by simp only [List.length_nil]; omega)
      refine ⟨g, Evt.step (fun k => rfl) ?_, ⟨fun e => absurd e h2, fun e => ?_⟩⟩
      · simp only [spec_l06Holes.l2]
        exact Evt.ite_pos (by omega) (Evt.ite_pos (by omega) (Evt.ite_pos (by omega) (Evt.ite_pos c h1)))
      · rw [rdI] at c
        exact absurd c (e.2 (fr.length - (d + 1)) (Nat.le_refl _) (by omega))
    · obtain ⟨g, h1, h2⟩ := sp_l2 d out (by omega) (by omega)
      refine ⟨g, Evt.step (fun k => rfl) ?_, h2.trans ⟨fun e => ⟨e.1, fun j j1 j2 => ?_⟩, fun e => ⟨e.1, fun j j1 j2 => e.2 j (by omega) j2⟩⟩⟩
      · simp only [spec_l06Holes.l2]
        rw [hw]
        exact Evt.ite_pos (by omega) (Evt.ite_pos (by omega) (Evt.ite_pos (by omega) (Evt.ite_neg c h1)))
      · by_cases e2 : j = fr.length - (d + 1)
        · rw [e2]
          rw [rdI] at c
          exact c
        · exact e.2 j (by omega) j2
end
theorem ord_len : ∀ (r o : List Int), o.length ≤ (impl_holes.ord r o).length ∧ ((impl_holes.ord r o).length = o.length ↔ ∀ x ∈ r, x ∈ o)
  | [], o => ⟨Nat.le_refl _, by simp [impl_holes.ord]⟩
  | x :: r, o => by
    unfold impl_holes.ord
    by_cases h : x ∈ o
    · rw [if_pos h]
      obtain ⟨h1, h2⟩ := ord_len r o
      refine ⟨h1, h2.trans ?_⟩
      simp [h]
    · rw [if_neg h]
      obtain ⟨h1, h2⟩ := ord_len r (o ++ [x])
      rw [List.length_append, List.length_singleton] at h1
      refine ⟨by omega, ⟨fun e => by omega, fun e => absurd (e x List.mem_cons_self) h⟩⟩
theorem ord_roots (l : List Cell) (hne : l ≠ []) : (0 < (impl_holes.ord (prs l) []).length - 1) ↔ ¬ ∀ j, 1 ≤ j → j < l.length → (prs l).getD j 0 ≠ (j : Int) := by
  cases l with
  | nil => exact absurd rfl hne
  | cons c r0 =>
    have hf := prs_first c r0
    have hlen := prs_len (c :: r0)
    have hroot := prs_root (c :: r0)
    generalize prs (c :: r0) = p at hf hlen hroot ⊢
    generalize (c :: r0).length = n at hlen hroot ⊢
    cases p with
    | nil =>
      subst hlen
      simp [impl_holes.ord]
    | cons x r =>
      have hx : x = 0 := hf
      subst hx
      have e : impl_holes.ord (0 :: r) [] = impl_holes.ord r [0] := by simp [impl_holes.ord]
      rw [e]
      obtain ⟨h1, h2⟩ := ord_len r [0]
      rw [List.length_singleton] at h1 h2
      constructor
      · intro h hall
        have hne : ¬ ∀ y ∈ r, y ∈ [(0 : Int)] := fun c => by
          have := h2.2 c
          omega
        apply hne
        intro y hy
        obtain ⟨j, hj, rfl⟩ := List.getElem_of_mem hy
        have hjn : j + 1 < n := by rw [← hlen, List.length_cons]; omega
        obtain ⟨r1, r2, r3⟩ := hroot (j + 1) hjn
        have e1 : (0 :: r : List Int).getD (j + 1) 0 = r[j] := by simp [List.getD_eq_getElem?_getD, List.getElem?_eq_getElem hj]
        rw [e1] at r1 r2 r3
        by_cases h0 : r[j] = 0
        · rw [h0]; simp
        · exact absurd (by rw [r3]; omega) (hall r[j].toNat (by omega) (by omega))
      · intro h
        have hne : ¬ (impl_holes.ord r [0]).length = 1 := fun c => by
          apply h
          intro j j1 j2 e1
          obtain ⟨j, rfl⟩ : ∃ i, j = i + 1 := ⟨j - 1, by omega⟩
          have hj : j < r.length := by rw [← hlen, List.length_cons] at j2; omega
          have e2 : (0 :: r : List Int).getD (j + 1) 0 = r[j] := by simp [List.getD_eq_getElem?_getD, List.getElem?_eq_getElem hj]
          have h3 := h2.1 c r[j] (List.getElem_mem hj)
          rw [List.mem_singleton] at h3
          rw [e2] at e1
          omega
        omega
theorem mn_le1 (f : Cell → Int) : ∀ (r : List Cell) (a : Int), r.foldl (fun a d => mn a (f d)) a ≤ a
  | [], a => Int.le_refl _
  | d :: r, a => by
    rw [List.foldl_cons]
    have h1 := mn_le1 f r (mn a (f d))
    have h2 : mn a (f d) ≤ a := by unfold mn; split <;> omega
    omega
theorem mn_le2 (f : Cell → Int) : ∀ (r : List Cell) (a : Int), ∀ d ∈ r, r.foldl (fun a d => mn a (f d)) a ≤ f d
  | [], a, d, hd => by simp at hd
  | e :: r, a, d, hd => by
    rw [List.foldl_cons]
    rcases List.mem_cons.1 hd with h | h
    · have h1 := mn_le1 f r (mn a (f e))
      have h2 : mn a (f e) ≤ f e := by unfold mn; split <;> omega
      rw [h]
      omega
    · exact mn_le2 f r _ d h
theorem lo_free (c : Cell) (r : List Cell) (y : Int) : hs (c :: r) (loX c r - 1) y = false := by
  by_cases h : hs (c :: r) (loX c r - 1) y = true
  · exfalso
    have h1 := (hs_iff _ _ _).1 h
    have h2 := (ixAt_mem (loX c r - 1, y) (c :: r) 0).1 (by omega)
    have h3 : loX c r ≤ (cc (loX c r - 1, y)).f0 := by
      rcases List.mem_cons.1 h2 with e | e
      · rw [e]; exact mn_le1 (fun d => d.f0) r c.f0
      · exact mn_le2 (fun d => d.f0) r c.f0 _ e
    have h4 : (cc (loX c r - 1, y)).f0 = loX c r - 1 := rfl
    omega
  · simpa using h
theorem holes_both (c : Cell) (r : List Cell) (hl : (c :: r).length ≤ 100000) (hS : Sml (c :: r)) : ∃ m g, Evt (fun k => impl_holes.f k (c :: r)) m ∧ Evt (fun k => spec_l06Holes.f k (c :: r)) g ∧ (0 < m ↔ g ≠ []) := by
  have hb := box_in hS
  have hc := hS c List.mem_cons_self
  obtain ⟨w, hw⟩ : ∃ w : Nat, (w : Int) = hiX c r - loX c r + 3 := ⟨(hiX c r - loX c r + 3).toNat, by omega⟩
  obtain ⟨m, hm⟩ : ∃ m : Nat, (m : Int) = hiY c r - loY c r + 3 := ⟨(hiY c r - loY c r + 3).toNat, by omega⟩
  have hw1 : w ≤ 203 := by omega
  have hm1 : m ≤ 203 := by omega
  have hmw : m * w ≤ 203 * 203 := Nat.mul_le_mul hm1 hw1
  have hlen := frAll_len (c :: r) w (loX c r - 1) m (loY c r - 1) []
  have hbef := frAll_bef (c :: r) w (loX c r - 1) (by omega) (by omega) m (loY c r - 1) [] (by omega) (by omega) ⟨List.nodup_nil, by simp⟩
  have hne : frAll (c :: r) w (loX c r - 1) m (loY c r - 1) [] ≠ [] := by
    obtain ⟨w', rfl⟩ : ∃ w', w = w' + 1 := ⟨w - 1, by omega⟩
    obtain ⟨m', rfl⟩ : ∃ m', m = m' + 1 := ⟨m - 1, by omega⟩
    unfold frAll
    refine frAll_mono _ _ _ _ _ _ ?_
    unfold frRow
    refine frRow_mono _ _ _ _ _ ?_
    rw [lo_free, if_neg (by simp)]
    simp
  rw [List.length_nil, Nat.zero_add] at hlen
  have hrows := impl_rows (c :: r) hl (loX c r - 1) (hiX c r + 1) (hiY c r + 1) w (by omega) m (loY c r - 1) [] (by omega) (by simp only [List.length_nil]; omega)
  have hsp := @spec_rows (c :: r) hl (loX c r) (loY c r) (hiX c r - loX c r + 1) (hiY c r - loY c r + 1) (by omega) (by omega) (by omega) (by omega) w (by omega)
  generalize hfr : frAll (c :: r) w (loX c r - 1) m (loY c r - 1) [] = fr at hlen hbef hne hrows
  have hfl : fr.length ≤ 100000 := by omega
  have hin : In 1000000 fr := fun d hd => by
    have := (hbef.2 d hd).2
    omega
  obtain ⟨g, g1, g2⟩ := sp_l2 (fr := fr) (p := prs fr) (prs_len fr) hfl (fr.length - 1) [] (by omega) (by simp only [List.length_nil]; omega)
  have hfp : 1 ≤ fr.length := by
    cases fr with
    | nil => exact absurd rfl hne
    | cons _ _ => simp
  have e1 : fr.length - (fr.length - 1) = 1 := by omega
  rw [e1] at g1 g2
  refine ⟨(impl_holes.ord (prs fr) []).length - 1, g, ?_, ?_, ?_⟩
  · unfold impl_holes.f
    refine (corner_eq c r hl).bind ((reach_eq c r hl).bind ?_)
    simp only
    refine Evt.ite_pos (by omega) ?_
    obtain ⟨K, hK⟩ := hrows
    have hev : Evt (fun k => impl_holes.rows k (c :: r) (loX c r - 1) (hiX c r + 1) (hiY c r + 1) k (loY c r - 1) []) fr := ⟨K + m + 1, fun k hk => hK k (by omega) k (by omega)⟩
    refine hev.bind ((impl_parts_eq hfl hbef.1 hin).bind ?_)
    rw [show outT fr fr.length (List.replicate fr.length (-1)) = prs fr from rfl]
    refine Evt.ite_pos ⟨prs_len fr, List.all_eq_true.2 fun x hx => ?_, by rw [prs_len]; exact hfp⟩ Evt.pure
    obtain ⟨j, hj, rfl⟩ := List.getElem_of_mem hx
    rw [prs_len] at hj
    have := prs_root fr j hj
    rw [List.getD_eq_getElem?_getD, List.getElem?_eq_getElem (by rw [prs_len]; exact hj)] at this
    simp only [Option.getD_some] at this
    unfold prng
    simp only [Bool.and_eq_true, decide_eq_true_eq]
    omega
  · unfold spec_l06Holes.f
    refine (least_eq c r hl).bind ((size_eq c r hl hS).bind ?_)
    simp only
    rw [w64 (n := loY c r - 1) (by omega) (by omega)]
    refine hsp m (loY c r - 1) [] (by omega) (by omega) (by simp only [List.length_nil]; omega) ?_
    rw [hfr]
    refine (spec_parts hfl).bind ?_
    exact g1
  · exact (ord_roots fr hne).trans (not_congr ⟨fun h => g2.2 ⟨rfl, h⟩, fun h => (g2.1 h).2⟩)
def tone (l : List Cell) (c : Cell) (x : Int) : Bool := !hs l x c.f1 && (!hs l c.f0 (wrap64 (c.f1 + 1)) && hs l x (wrap64 (c.f1 + 1)))
def tch (l : List Cell) (c : Cell) : Bool := tone l c (wrap64 (c.f0 + 1)) || tone l c (wrap64 (c.f0 - 1))
theorem one_evt (l : List Cell) (hl : l.length ≤ 100000) (c : Cell) (s : Int) : Evt (fun k => impl_IsPlain.one k l c s) (tone l c (wrap64 (c.f0 + s))) := by
  unfold impl_IsPlain.one tone
  refine (contains_eq l _ _ (by omega)).bind ?_
  cases h1 : hs l (wrap64 (c.f0 + s)) c.f1
  · refine Evt.bind (a := hs l c.f0 (wrap64 (c.f1 + 1))) (Evt.ite_neg (by simp) (contains_eq l _ _ (by omega))) ?_
    cases h2 : hs l c.f0 (wrap64 (c.f1 + 1))
    · refine Evt.ite_neg (by simp) ?_
      simpa using contains_eq l (wrap64 (c.f0 + s)) (wrap64 (c.f1 + 1)) (by omega)
    · exact Evt.ite_pos rfl Evt.pure
  · exact Evt.bind (a := true) (Evt.ite_pos rfl Evt.pure) (Evt.ite_pos rfl Evt.pure)
theorem all_evt (l : List Cell) (hl : l.length ≤ 100000) : ∀ r : List Cell, Evt (fun k => impl_IsPlain.all k l r) (!r.any (tch l))
  | [] => Evt.pure
  | c :: r => by
    simp only [impl_IsPlain.all, impl_IsPlain.two]
    have h1 := one_evt l hl c (-1)
    have h2 := one_evt l hl c 1
    rw [show c.f0 + -1 = c.f0 - 1 from rfl] at h1
    have hb : Evt (fun k => (impl_IsPlain.one k l c (-1)).bind fun b => if b = true then some true else (impl_IsPlain.one k l c 1).bind fun b => if b = true then some true else some false) (tch l c) := by
      refine h1.bind ?_
      unfold tch
      cases e1 : tone l c (wrap64 (c.f0 - 1))
      · refine Evt.ite_neg (by simp) (h2.bind ?_)
        cases e2 : tone l c (wrap64 (c.f0 + 1))
        · exact Evt.ite_neg (by simp) Evt.pure
        · exact Evt.ite_pos rfl Evt.pure
      · rw [Bool.or_true]
        exact Evt.ite_pos rfl Evt.pure
    refine hb.bind ?_
    rw [List.any_cons]
    cases e : tch l c
    · rw [Bool.false_or]
      exact Evt.ite_neg (by simp) (all_evt l hl r)
    · exact Evt.ite_pos rfl Evt.pure
theorem ge_hs (l : List Cell) (x y : Int) : decide (ixAt (x, y) 0 l ≥ 0) = hs l x y := rfl
theorem touch_evt (l : List Cell) (hl : l.length ≤ 100000) : Evt (fun k => spec_l23Touch.f k l) (l.any (tch l)) := by
  unfold spec_l23Touch.f
  refine Evt.up (g := fun k i => spec_l23Touch.l0 k l (i : Int)) (R := fun i => (l.drop i).any (tch l)) (n := l.length) ?_ ?_ 0 (Nat.zero_le _)
  · refine Evt.step (fun k => rfl) ?_
    simp only [spec_l23Touch.l0]
    rw [List.drop_length]
    exact Evt.ite_neg (by omega) Evt.pure
  · intro i hi ih
    refine Evt.step (fun k => rfl) ?_
    simp only [spec_l23Touch.l0]
    rw [rd_getD, drop_getD l i z35 hi, List.any_cons]
    generalize l.getD i z35 = c
    generalize (l.drop (i + 1)).any (tch l) = rest at ih ⊢
    have hj : ∀ (u : Bool), u = tone l c (wrap64 (c.f0 + 1)) → Evt (fun k => spec_l23Touch.j1 k l (i : Int) (hs l (wrap64 (c.f0 - 1)) c.f1) (hs l c.f0 (wrap64 (c.f1 + 1))) u c.f0 c.f1) (tch l c || rest) := by
      intro u hu
      refine Evt.step (fun k => rfl) ?_
      simp only [spec_l23Touch.j1]
      rw [wrap_succ hi (by omega)]
      unfold tch
      rw [← hu]
      cases u
      · rw [Bool.false_or]
        refine Evt.ite_neg (by simp) ?_
        unfold tone
        cases h1 : hs l (wrap64 (c.f0 - 1)) c.f1
        · refine Evt.ite_neg (by simp) ?_
          cases h2 : hs l c.f0 (wrap64 (c.f1 + 1))
          · refine Evt.ite_neg (by simp) ((l02Index_eq l _ _ (by omega)).bind ?_)
            simp only [Bool.not_false, Bool.true_and]
            by_cases h3 : ixAt (wrap64 (c.f0 - 1), wrap64 (c.f1 + 1)) 0 l ≥ 0
            · rw [← ge_hs, decide_eq_true h3]
              exact Evt.ite_pos h3 Evt.pure
            · rw [← ge_hs, decide_eq_false h3]
              exact Evt.ite_neg h3 ih
          · refine Evt.ite_pos rfl ?_
            simpa using ih
        · refine Evt.ite_pos rfl ?_
          simpa using ih
      · exact Evt.ite_pos rfl Evt.pure
    refine Evt.ite_pos (by omega) (Evt.ite_pos (by omega) ((l02Index_eq l _ _ (by omega)).bind ((l02Index_eq l _ _ (by omega)).bind ((l02Index_eq l _ _ (by omega)).bind ?_))))
    simp only [ge_hs]
    by_cases h1 : ixAt (wrap64 (c.f0 + 1), c.f1) 0 l ≥ 0
    · refine Evt.ite_pos h1 (hj false ?_)
      unfold tone
      rw [← ge_hs l _ c.f1, decide_eq_true h1]
      rfl
    · refine Evt.ite_neg h1 ?_
      by_cases h2 : ixAt (c.f0, wrap64 (c.f1 + 1)) 0 l ≥ 0
      · refine Evt.ite_pos h2 (hj false ?_)
        unfold tone
        rw [← ge_hs l c.f0, decide_eq_true h2]
        simp
      · refine Evt.ite_neg h2 ((l02Index_eq l _ _ (by omega)).bind (hj _ ?_))
        unfold tone
        rw [← ge_hs l c.f0, decide_eq_false h2, ← ge_hs l _ c.f1, decide_eq_false h1]
        rfl
end Go.Proofs.Ytgfpmgmelhbkoaa.Pure
end
section
namespace Go.Proofs.Ytgfpmgmelhbkoaa.Pure
open Go.RowKit Go.Proofs.Ytgfpmgmelhbkoaa Go.Proofs.Ytgfpmgmelhbkoaa.Q Go.Proofs.YtgfpmgmelhbkoaaW.PrintWords
set_option linter.unusedVariables false
set_option linter.unusedSimpArgs false
instance : DecidableEq Cell := fun a b => if h : a.f0 = b.f0 ∧ a.f1 = b.f1 then isTrue (by cases a; cases b; simp at h; rw [h.1, h.2]) else isFalse (fun e => h (by rw [e]; exact ⟨rfl, rfl⟩))
theorem nodup_le {α : Type} [DecidableEq α] : ∀ (a b : List α), a.Nodup → (∀ x ∈ a, x ∈ b) → a.length ≤ b.length
  | [], b, _, _ => Nat.zero_le _
  | x :: r, b, hn, hs => by
    obtain ⟨h1, h2⟩ := List.nodup_cons.1 hn
    have hx := hs x List.mem_cons_self
    have ih := nodup_le r (b.erase x) h2 (fun y hy => (List.mem_erase_of_ne (fun e => h1 (by rw [← e]; exact hy))).2 (hs y (List.mem_cons_of_mem _ hy)))
    rw [List.length_erase_of_mem hx] at ih
    have := List.length_pos_of_mem hx
    simp only [List.length_cons]
    omega
theorem comes_back {α : Type} [DecidableEq α] (f : α → α) (B : List α) (hB : ∀ x ∈ B, f x ∈ B) (inj : ∀ x ∈ B, ∀ y ∈ B, f x = f y → x = y) (e : α) (he : e ∈ B) (it : Nat → α) (h0 : it 0 = e) (hs : ∀ n, it (n + 1) = f (it n)) :
    ∃ n, 1 ≤ n ∧ n ≤ B.length ∧ it n = e := by
  have hin : ∀ n, it n ∈ B := by
    intro n
    induction n with
    | zero => rw [h0]; exact he
    | succ n ih => rw [hs]; exact hB _ ih
  apply Classical.byContradiction
  intro hno
  have back : ∀ i j, it i = it (i + j) → it 0 = it j := by
    intro i
    induction i with
    | zero => intro j h; rw [Nat.zero_add] at h; exact h
    | succ i ih =>
      intro j h
      rw [show i + 1 + j = (i + j) + 1 by omega, hs, hs] at h
      exact ih j (inj _ (hin _) _ (hin _) h)
  have hnd : ((List.range (B.length + 1)).map it).Nodup := by
    rw [List.nodup_iff_pairwise_ne, List.pairwise_map]
    refine List.Pairwise.imp_of_mem ?_ (List.pairwise_lt_range (n := B.length + 1))
    intro i j hi hj hij heq
    rw [List.mem_range] at hi hj
    refine hno ⟨j - i, by omega, by omega, ?_⟩
    have := back i (j - i) (by rw [show i + (j - i) = j by omega]; exact heq)
    rw [← this, h0]
  have := nodup_le _ B hnd (fun x hx => by
    obtain ⟨i, _, rfl⟩ := List.mem_map.1 hx
    exact hin i)
  rw [List.length_map, List.length_range] at this
  omega
def stp (d : Nat) : Int × Int := match d with | 0 => (1, 0) | 1 => (0, 1) | 2 => (-1, 0) | _ => (0, -1)
def ahd (x y : Int) (d : Nat) : Cell := match d with | 0 => ⟨x, y - 1⟩ | 1 => ⟨x, y⟩ | 2 => ⟨x - 1, y⟩ | _ => ⟨x - 1, y - 1⟩
abbrev Edge := Int × Int × Nat
def goto_ (e : Edge) : Int × Int := (e.1 + (stp e.2.2).1, e.2.1 + (stp e.2.2).2)
def nxt (l : List Cell) (e : Edge) : Edge :=
  let x := (goto_ e).1
  let y := (goto_ e).2
  (x, y, if ahd x y e.2.2 ∈ l then (e.2.2 + 3) % 4 else if ahd x y ((e.2.2 + 1) % 4) ∉ l then (e.2.2 + 1) % 4 else e.2.2)
def rgt (e : Edge) : Cell := ahd e.1 e.2.1 ((e.2.2 + 1) % 4)
def lft (e : Edge) : Cell := ahd e.1 e.2.1 e.2.2
def Bnd (l : List Cell) (e : Edge) : Prop := e.2.2 < 4 ∧ rgt e ∈ l ∧ lft e ∉ l
theorem behind (e : Edge) (h : e.2.2 < 4) : rgt e = ahd (goto_ e).1 (goto_ e).2 ((e.2.2 + 2) % 4) ∧ lft e = ahd (goto_ e).1 (goto_ e).2 ((e.2.2 + 3) % 4) := by
  obtain ⟨x, y, d⟩ := e
  replace h : d < 4 := h
  have : d = 0 ∨ d = 1 ∨ d = 2 ∨ d = 3 := by omega
  rcases this with rfl | rfl | rfl | rfl <;> (simp only [rgt, lft, ahd, goto_, stp]; constructor <;> (congr 1 <;> omega))
theorem nxt_bnd {l : List Cell} {e : Edge} (h : Bnd l e) : Bnd l (nxt l e) := by
  obtain ⟨hd, hr, hl⟩ := h
  have hb := behind e hd
  rw [hb.1] at hr
  rw [hb.2] at hl
  obtain ⟨x, y, d⟩ := e
  replace hd : d < 4 := hd
  unfold nxt Bnd rgt lft
  generalize goto_ (x, y, d) = p at hr hl ⊢
  obtain ⟨px, py⟩ := p
  simp only at hr hl ⊢
  by_cases h1 : ahd px py d ∈ l
  · rw [if_pos h1]
    refine ⟨by omega, ?_, hl⟩
    rw [show ((d + 3) % 4 + 1) % 4 = d by omega]
    exact h1
  · rw [if_neg h1]
    by_cases h2 : ahd px py ((d + 1) % 4) ∉ l
    · rw [if_pos h2]
      refine ⟨by omega, ?_, h2⟩
      rw [show ((d + 1) % 4 + 1) % 4 = (d + 2) % 4 by omega]
      exact hr
    · rw [if_neg h2]
      exact ⟨hd, Classical.byContradiction h2, h1⟩
theorem nxt_cases {l : List Cell} {e : Edge} (h : Bnd l e) (d' : Nat) (hd' : (nxt l e).2.2 = d') :
    (e.2.2 = (d' + 1) % 4 ∧ ahd (goto_ e).1 (goto_ e).2 ((d' + 3) % 4) ∈ l) ∨ (e.2.2 = d' ∧ ahd (goto_ e).1 (goto_ e).2 ((d' + 2) % 4) ∈ l ∧ ahd (goto_ e).1 (goto_ e).2 ((d' + 3) % 4) ∉ l) ∨ (e.2.2 = (d' + 3) % 4 ∧ ahd (goto_ e).1 (goto_ e).2 ((d' + 2) % 4) ∉ l ∧ ahd (goto_ e).1 (goto_ e).2 ((d' + 3) % 4) ∉ l) := by
  obtain ⟨hd, hr, hl⟩ := h
  have hb := behind e hd
  rw [hb.1] at hr
  rw [hb.2] at hl
  obtain ⟨x, y, d⟩ := e
  replace hd : d < 4 := hd
  unfold nxt at hd'
  generalize goto_ (x, y, d) = p at hr hl hd' ⊢
  obtain ⟨px, py⟩ := p
  simp only at hr hl hd' ⊢
  by_cases h1 : ahd px py d ∈ l
  · rw [if_pos h1] at hd'
    left
    refine ⟨by omega, ?_⟩
    rw [show (d' + 3) % 4 = (d + 2) % 4 by omega]
    exact hr
  · rw [if_neg h1] at hd'
    by_cases h2 : ahd px py ((d + 1) % 4) ∉ l
    · rw [if_pos h2] at hd'
      right; right
      refine ⟨by omega, ?_, ?_⟩
      · rw [show (d' + 2) % 4 = (d + 3) % 4 by omega]; exact hl
      · rw [show (d' + 3) % 4 = d by omega]; exact h1
    · rw [if_neg h2] at hd'
      right; left
      subst hd'
      exact ⟨rfl, hr, hl⟩
theorem goto_inj {e e' : Edge} (h : goto_ e = goto_ e') (hd : e.2.2 = e'.2.2) : e = e' := by
  obtain ⟨x, y, d⟩ := e
  obtain ⟨x', y', d'⟩ := e'
  simp only at hd
  subst hd
  obtain ⟨h1, h2⟩ := Prod.mk.inj h
  replace h1 : x + (stp d).1 = x' + (stp d).1 := h1
  replace h2 : y + (stp d).2 = y' + (stp d).2 := h2
  have e1 : x = x' := by omega
  have e2 : y = y' := by omega
  rw [e1, e2]
theorem nxt_inj {l : List Cell} {e e' : Edge} (h : Bnd l e) (h' : Bnd l e') (heq : nxt l e = nxt l e') : e = e' := by
  have hp : goto_ e = goto_ e' := by
    have h1 := congrArg (fun z => z.1) heq
    have h2 := congrArg (fun z => z.2.1) heq
    exact Prod.ext h1 h2
  have c := nxt_cases h _ rfl
  have c' := nxt_cases h' _ rfl
  rw [heq, hp] at c
  refine goto_inj hp ?_
  rcases c with ⟨a, b⟩ | ⟨a, b, b2⟩ | ⟨a, b, b2⟩ <;> rcases c' with ⟨a', b'⟩ | ⟨a', b', b2'⟩ | ⟨a', b', b2'⟩ <;> (first | (rw [a, a']; done) | (exact absurd b b2') | (exact absurd b' b2) | (exact absurd b b') | (exact absurd b' b))
def mkE (d : Nat) (c : Cell) : Edge := match d with | 0 => (c.f0, c.f1, 0) | 1 => (c.f0 + 1, c.f1, 1) | 2 => (c.f0 + 1, c.f1 + 1, 2) | _ => (c.f0, c.f1 + 1, 3)
theorem mkE_rgt (e : Edge) (h : e.2.2 < 4) : mkE e.2.2 (rgt e) = e := by
  obtain ⟨x, y, d⟩ := e
  replace h : d < 4 := h
  have : d = 0 ∨ d = 1 ∨ d = 2 ∨ d = 3 := by omega
  rcases this with rfl | rfl | rfl | rfl <;> simp [mkE, rgt, ahd]
instance (l : List Cell) (e : Edge) : Decidable (Bnd l e) := by unfold Bnd; exact inferInstance
def bnds (l : List Cell) : List Edge := ((List.range 4).flatMap fun d => l.map (mkE d)).filter (fun e => decide (Bnd l e))
theorem bnds_mem {l : List Cell} {e : Edge} : e ∈ bnds l ↔ Bnd l e := by
  unfold bnds
  rw [List.mem_filter]
  simp only [decide_eq_true_eq]
  constructor
  · exact fun h => h.2
  · intro h
    refine ⟨?_, h⟩
    rw [List.mem_flatMap]
    exact ⟨e.2.2, List.mem_range.2 h.1, List.mem_map.2 ⟨rgt e, h.2.1, mkE_rgt e h.1⟩⟩
theorem bnds_len (l : List Cell) : (bnds l).length ≤ 4 * l.length := by
  unfold bnds
  refine Nat.le_trans (List.length_filter_le _ _) ?_
  simp [List.range_succ]
  omega
def itE (l : List Cell) (e : Edge) : Nat → Edge
  | 0 => e
  | n + 1 => nxt l (itE l e n)
theorem round {l : List Cell} {e : Edge} (h : Bnd l e) : ∃ n, 1 ≤ n ∧ n ≤ 4 * l.length ∧ itE l e n = e := by
  obtain ⟨n, h1, h2, h3⟩ := comes_back (nxt l) (bnds l) (fun x hx => bnds_mem.2 (nxt_bnd (bnds_mem.1 hx))) (fun x hx y hy => nxt_inj (bnds_mem.1 hx) (bnds_mem.1 hy)) e (bnds_mem.2 h) (itE l e) rfl (fun n => rfl)
  exact ⟨n, h1, Nat.le_trans h2 (bnds_len l), h3⟩
theorem steps_rd (d : Nat) (h : d < 4) : rd_T35 ([(⟨1, 0⟩ : S35), (⟨0, 1⟩ : S35), (⟨(-1), 0⟩ : S35), (⟨0, (-1)⟩ : S35)] : List Cell) (d : Int) = ⟨(stp d).1, (stp d).2⟩ := by
  have : d = 0 ∨ d = 1 ∨ d = 2 ∨ d = 3 := by omega
  rcases this with rfl | rfl | rfl | rfl <;> rfl
theorem ahead_rd (x y : Int) (hx : -1000000 ≤ x ∧ x ≤ 1000000) (hy : -1000000 ≤ y ∧ y ≤ 1000000) (d : Nat) (h : d < 4) :
    rd_T35 ([(⟨x, wrap64 (y - 1)⟩ : S35), (⟨x, y⟩ : S35), (⟨wrap64 (x - 1), y⟩ : S35), (⟨wrap64 (x - 1), wrap64 (y - 1)⟩ : S35)] : List Cell) (d : Int) = ahd x y d := by
  rw [w64 (n := y - 1) (by omega) (by omega), w64 (n := x - 1) (by omega) (by omega)]
  have : d = 0 ∨ d = 1 ∨ d = 2 ∨ d = 3 := by omega
  rcases this with rfl | rfl | rfl | rfl <;> rfl
theorem turn_mod {d a : Nat} (h : d < 4) (ha : a ≤ 3) : Int.tmod (wrap64 ((d : Int) + (a : Int))) 4 = (((d + a) % 4 : Nat) : Int) := by
  rw [w64 (by omega) (by omega), Int.tmod_eq_emod_of_nonneg (by omega)]
  omega
theorem ahd_in {x y : Int} {d : Nat} {b : Int} (h : (-b ≤ (ahd x y d).f0 ∧ (ahd x y d).f0 ≤ b) ∧ -b ≤ (ahd x y d).f1 ∧ (ahd x y d).f1 ≤ b) : (-b ≤ x ∧ x ≤ b + 1) ∧ -b ≤ y ∧ y ≤ b + 1 := by
  unfold ahd at h
  split at h <;> simp only at h <;> omega
theorem above_first {l : List Cell} (h : Sh l = true) : (⟨(l.getD 0 z35).f0, (l.getD 0 z35).f1 - 1⟩ : Cell) ∉ l := by
  have hn := Sh_len h
  have hall : ∀ i, i < l.length → (l.getD 0 z35).f1 ≤ (l.getD i z35).f1 := by
    unfold Sh at h
    simp only [Bool.and_eq_true, decide_eq_true_eq] at h
    intro i
    induction i with
    | zero => intro _; exact Int.le_refl _
    | succ i ih =>
      intro hi
      have h2 := allF_true.1 h.1 (i + 1) (Nat.zero_le _) hi
      unfold shOk lessC at h2
      simp only [Bool.and_eq_true, Bool.or_eq_true, decide_eq_true_eq, Nat.add_sub_cancel] at h2
      have := ih (by omega)
      rcases h2.2 with h3 | h3 | h3
      · omega
      · omega
      · omega
  intro hm
  obtain ⟨i, hi, he⟩ := List.getElem_of_mem hm
  have := hall i hi
  have e2 : (l.getD i z35) = l[i] := by simp [List.getD_eq_getElem?_getD, List.getElem?_eq_getElem hi]
  rw [e2, he] at this
  simp only at this
  omega
theorem hs_mem (l : List Cell) (x y : Int) : hs l x y = decide ((⟨x, y⟩ : Cell) ∈ l) := by
  unfold hs
  exact decide_eq_decide.2 (ixAt_mem (x, y) l 0)
theorem hs_ahd (l : List Cell) (x y : Int) (j : Nat) : hs l (ahd x y j).f0 (ahd x y j).f1 = decide (ahd x y j ∈ l) := hs_mem l _ _
theorem ahd_rgt (x y : Int) (hx : -1000000 ≤ x ∧ x ≤ 1000000) (hy : -1000000 ≤ y ∧ y ≤ 1000000) (j : Nat) (h : j < 4) :
    (wrap64 (x + (rgtL j).1) = (ahd x y ((j + 1) % 4)).f0 ∧ wrap64 (y + (rgtL j).2) = (ahd x y ((j + 1) % 4)).f1) ∧ wrap64 (x + (lftL j).1) = (ahd x y j).f0 ∧ wrap64 (y + (lftL j).2) = (ahd x y j).f1 := by
  have : j = 0 ∨ j = 1 ∨ j = 2 ∨ j = 3 := by omega
  rcases this with rfl | rfl | rfl | rfl <;> (simp only [rgtL, lftL, ahd]; refine ⟨⟨?_, ?_⟩, ?_, ?_⟩ <;> (rw [w64 (by omega) (by omega)]; first | rfl | omega))
theorem edg_eq {l : List Cell} (hl : l.length ≤ 1000) (x y : Int) (hx : -1000000 ≤ x ∧ x ≤ 1000000) (hy : -1000000 ≤ y ∧ y ≤ 1000000) (j : Nat) (h : j < 4) :
    Evt (fun k => impl_boundaryWord.edg k l ⟨x, y⟩ j) (decide (ahd x y ((j + 1) % 4) ∈ l) && !decide (ahd x y j ∈ l)) := by
  unfold impl_boundaryWord.edg
  obtain ⟨⟨e1, e2⟩, e3, e4⟩ := ahd_rgt x y hx hy j h
  simp only
  rw [e1, e2, e3, e4]
  refine (contains_eq l _ _ (by omega)).bind ?_
  rw [hs_ahd]
  by_cases c : ahd x y ((j + 1) % 4) ∈ l
  · rw [decide_eq_true c, Bool.true_and]
    refine Evt.ite_pos rfl ((contains_eq l _ _ (by omega)).bind ?_)
    rw [hs_ahd]
    exact Evt.pure
  · rw [decide_eq_false c, Bool.false_and]
    exact Evt.ite_neg (by simp) Evt.pure
def NT (l : List Cell) (x y : Int) : Prop := ¬ (ahd x y 1 ∈ l ∧ ahd x y 3 ∈ l ∧ ahd x y 0 ∉ l ∧ ahd x y 2 ∉ l) ∧ ¬ (ahd x y 0 ∈ l ∧ ahd x y 2 ∈ l ∧ ahd x y 1 ∉ l ∧ ahd x y 3 ∉ l)
theorem nt_of {l : List Cell} (ht : l.any (tch l) = false) (x y : Int) (hx : -1000000 ≤ x ∧ x ≤ 1000000) (hy : -1000000 ≤ y ∧ y ≤ 1000000) : NT l x y := by
  rw [List.any_eq_false] at ht
  constructor
  · rintro ⟨h1, h3, h0, h2⟩
    apply ht _ h3
    unfold tch tone
    show (_ || _) = true
    rw [Bool.or_eq_true]
    left
    simp only [ahd] at h1 h3 h0 h2 ⊢
    rw [w64 (n := x - 1 + 1) (by omega) (by omega), w64 (n := y - 1 + 1) (by omega) (by omega), show x - 1 + 1 = x by omega, show y - 1 + 1 = y by omega, hs_mem, hs_mem, hs_mem, decide_eq_false h0, decide_eq_false h2, decide_eq_true h1]
    rfl
  · rintro ⟨h0, h2, h1, h3⟩
    apply ht _ h0
    unfold tch tone
    show (_ || _) = true
    rw [Bool.or_eq_true]
    right
    simp only [ahd] at h1 h3 h0 h2 ⊢
    rw [w64 (n := x - 1) (by omega) (by omega), w64 (n := y - 1 + 1) (by omega) (by omega), show y - 1 + 1 = y by omega, hs_mem, hs_mem, hs_mem, decide_eq_false h1, decide_eq_false h3, decide_eq_true h2]
    rfl
theorem turn_step {k : Nat → Option Bool} {l : List Cell} {a : Cell} {d : Nat} {b : Bool} {r : Nat} (hb : Evt (fun k => impl_boundaryWord.edg k l a (4 - (d + 1))) b) (hr : b = true → r = 4 - (d + 1)) (hn : b = false → Evt (fun k => impl_boundaryWord.turn k l a d) r) : Evt (fun k => impl_boundaryWord.turn k l a (d + 1)) r := by
  simp only [impl_boundaryWord.turn]
  refine hb.bind ?_
  cases b
  · exact Evt.ite_neg (by simp) (hn rfl)
  · rw [hr rfl]
    exact Evt.ite_pos rfl Evt.pure
theorem turn_eq {l : List Cell} (hl : l.length ≤ 1000) {x y : Int} {d : Nat} (hx : -1000000 ≤ x ∧ x ≤ 1000000) (hy : -1000000 ≤ y ∧ y ≤ 1000000) (hn : NT l x y) (hb : Bnd l (x, y, d)) : Evt (fun k => impl_boundaryWord.turn k l ⟨x, y⟩ 4) d := by
  have q0 := edg_eq hl x y hx hy 0 (by omega)
  have q1 := edg_eq hl x y hx hy 1 (by omega)
  have q2 := edg_eq hl x y hx hy 2 (by omega)
  have q3 := edg_eq hl x y hx hy 3 (by omega)
  obtain ⟨hd, hr, hlf⟩ := hb
  unfold NT at hn
  replace hr : ahd x y ((d + 1) % 4) ∈ l := hr
  replace hlf : ahd x y d ∉ l := hlf
  replace hd : d < 4 := hd
  simp only [show (0 + 1) % 4 = 1 from rfl, show (1 + 1) % 4 = 2 from rfl, show (2 + 1) % 4 = 3 from rfl, show (3 + 1) % 4 = 0 from rfl] at q0 q1 q2 q3
  refine turn_step (k := fun _ => none) (d := 3) q0 (fun h => ?_) (fun h0 => turn_step (k := fun _ => none) (d := 2) q1 (fun h => ?_) (fun h1 => turn_step (k := fun _ => none) (d := 1) q2 (fun h => ?_) (fun h2 => turn_step (k := fun _ => none) (d := 0) q3 (fun h => ?_) (fun h3 => ?_))))
  all_goals (have hdd : d = 0 ∨ d = 1 ∨ d = 2 ∨ d = 3 := by omega)
  all_goals (simp only [Bool.and_eq_true, Bool.and_eq_false_iff, Bool.not_eq_true', Bool.not_eq_false', decide_eq_true_eq, decide_eq_false_iff_not] at *)
  all_goals (rcases hdd with rfl | rfl | rfl | rfl)
  all_goals (simp only [show (0 + 1) % 4 = 1 from rfl, show (1 + 1) % 4 = 2 from rfl, show (2 + 1) % 4 = 3 from rfl, show (3 + 1) % 4 = 0 from rfl] at hr)
  all_goals (first | rfl | (exfalso; clear q0 q1 q2 q3; by_cases c0 : ahd x y 0 ∈ l <;> by_cases c1 : ahd x y 1 ∈ l <;> by_cases c2 : ahd x y 2 ∈ l <;> by_cases c3 : ahd x y 3 ∈ l <;> simp [c0, c1, c2, c3] at *))
theorem stpL_eq : stpL = stp := rfl
theorem letL_eq (d : Nat) (h : d < 4) : bt (⟨#[114, 100, 108, 117]⟩ : ByteArray) (d : Int) = letL d := by
  have : d = 0 ∨ d = 1 ∨ d = 2 ∨ d = 3 := by omega
  rcases this with rfl | rfl | rfl | rfl <;> rfl
theorem itE_sw (l : List Cell) : ∀ m (q : Edge), itE l q (m + 1) = itE l (nxt l q) m
  | 0, q => rfl
  | m + 1, q => congrArg (nxt l) (itE_sw l m q)
theorem word_both {l : List Cell} (hl : l.length ≤ 1000) (hi : In 1000 l) (ht : l.any (tch l) = false) {sx sy : Int} (hs0 : rd_T35 l 0 = ⟨sx, sy⟩) {e0 : Edge} (he0 : e0.1 = sx ∧ e0.2.1 = sy) :
    ∀ (n : Nat) (e : Edge) (o : List Int), Bnd l e → itE l e n = e0 → 1 ≤ n → o.length + n ≤ 5000 → ∃ r, Evt (fun k => spec_l23Word.l0 k l o (e.2.2 : Int) sx sy e.1 e.2.1) (strOfNums r) ∧ ∃ K, ∀ k, K ≤ k → ∀ m, n ≤ m → impl_boundaryWord.go k l m ⟨e.1, e.2.1⟩ o = some r := by
  intro n
  induction n with
  | zero => intro e o _ _ h; omega
  | succ n ih =>
    intro e o hb hit _ ho
    have hr := ahd_in (hi _ hb.2.1)
    obtain ⟨x, y, d⟩ := e
    have hd : d < 4 := hb.1
    replace hr : (-1000 ≤ x ∧ x ≤ 1000 + 1) ∧ -1000 ≤ y ∧ y ≤ 1000 + 1 := hr
    have hst : (-1 ≤ (stp d).1 ∧ (stp d).1 ≤ 1) ∧ -1 ≤ (stp d).2 ∧ (stp d).2 ≤ 1 := by
      unfold stp
      split <;> simp
    have hnx : nxt l (x, y, d) = (x + (stp d).1, y + (stp d).2, (nxt l (x, y, d)).2.2) := rfl
    have hit2 : itE l (nxt l (x, y, d)) n = e0 := by
      rw [← itE_sw]; exact hit
    obtain ⟨K1, hK1⟩ := turn_eq hl (x := x) (y := y) (by omega) (by omega) (nt_of ht x y (by omega) (by omega)) hb
    have hgo : ∀ k, K1 ≤ k → ∀ m, impl_boundaryWord.go k l (m + 1) ⟨x, y⟩ o = if (x + (stp d).1 == sx && y + (stp d).2 == sy) = true then some (o ++ [letL d]) else impl_boundaryWord.go k l m ⟨x + (stp d).1, y + (stp d).2⟩ (o ++ [letL d]) := by
      intro k hk m
      have hT : impl_boundaryWord.turn k l ⟨x, y⟩ 4 = some d := hK1 k hk
      rw [impl_boundaryWord.go, hT, Option.bind_some, if_pos (by omega), hs0, stpL_eq]
      simp only
      rw [w64 (n := x + (stp d).1) (by omega) (by omega), w64 (n := y + (stp d).2) (by omega) (by omega)]
    clear hK1
    by_cases hend : (x + (stp d).1 == sx && y + (stp d).2 == sy) = true
    · refine ⟨o ++ [letL d], Evt.step (fun k => rfl) ?_, K1, fun k hk m hm => ?_⟩
      · simp only [spec_l23Word.l0, Option.bind_some, steps_rd d hd]
        rw [w64 (n := x + (stp d).1) (by omega) (by omega), w64 (n := y + (stp d).2) (by omega) (by omega), letL_eq d hd]
        have hd4 : (d : Int) < ((4 : Nat) : Int) := by omega
        exact Evt.ite_pos (by omega) (Evt.ite_pos (by omega) (Evt.ite_pos (by omega) (Evt.ite_pos hd4 (Evt.ite_pos hend Evt.pure))))
      · obtain ⟨m, rfl⟩ : ∃ i, m = i + 1 := ⟨m - 1, by omega⟩
        rw [hgo k hk m, if_pos hend]
    · have hn1 : 1 ≤ n := by
        rcases Nat.eq_zero_or_pos n with h0 | h0
        · exfalso
          subst h0
          have e1 : nxt l (x, y, d) = e0 := hit2
          rw [hnx] at e1
          rw [← e1] at he0
          apply hend
          obtain ⟨q1, q2⟩ := he0
          simp only at q1 q2
          rw [q1, q2]
          simp
        · exact h0
      obtain ⟨r, go, K2, hK2⟩ := ih (nxt l (x, y, d)) (o ++ [letL d]) (nxt_bnd hb) hit2 hn1 (by simp; omega)
      refine ⟨r, Evt.step (fun k => rfl) ?_, max K1 K2, fun k hk m hm => ?_⟩
      · simp only [spec_l23Word.l0, Option.bind_some, steps_rd d hd]
        rw [w64 (n := x + (stp d).1) (by omega) (by omega), w64 (n := y + (stp d).2) (by omega) (by omega), letL_eq d hd]
        have hx1 : -1000000 ≤ x + (stp d).1 ∧ x + (stp d).1 ≤ 1000000 := by omega
        have hy1 : -1000000 ≤ y + (stp d).2 ∧ y + (stp d).2 ≤ 1000000 := by omega
        have hdm : (d + 1) % 4 < 4 := by omega
        have t1 : Int.tmod (wrap64 ((d : Int) + 1)) 4 = (((d + 1) % 4 : Nat) : Int) := turn_mod (a := 1) hd (by omega)
        have t3 : Int.tmod (wrap64 ((d : Int) + 3)) 4 = (((d + 3) % 4 : Nat) : Int) := turn_mod (a := 3) hd (by omega)
        rw [t1, t3, ahead_rd _ _ hx1 hy1 d hd, ahead_rd _ _ hx1 hy1 ((d + 1) % 4) hdm]
        clear t1 t3
        have hd4 : (d : Int) < ((4 : Nat) : Int) := by omega
        have hd5 : ((((d + 1) % 4 : Nat)) : Int) < ((4 : Nat) : Int) := by omega
        refine Evt.ite_pos (by omega) (Evt.ite_pos (by omega) (Evt.ite_pos (by omega) (Evt.ite_pos hd4 (Evt.ite_neg hend (Evt.ite_pos hd4 (Evt.ite_pos (by omega) (Evt.ite_pos hd5 ?_)))))))
        rw [hnx] at go
        have hx1 := ixAt_mem ((ahd (x + (stp d).1) (y + (stp d).2) d).f0, (ahd (x + (stp d).1) (y + (stp d).2) d).f1) l 0
        have hx2 := ixAt_mem ((ahd (x + (stp d).1) (y + (stp d).2) ((d + 1) % 4)).f0, (ahd (x + (stp d).1) (y + (stp d).2) ((d + 1) % 4)).f1) l 0
        have hdd : (nxt l (x, y, d)).2.2 = if ahd (x + (stp d).1) (y + (stp d).2) d ∈ l then (d + 3) % 4 else if ahd (x + (stp d).1) (y + (stp d).2) ((d + 1) % 4) ∉ l then (d + 1) % 4 else d := rfl
        rw [hdd] at go
        refine (l02Index_eq l _ _ (by omega)).bind ?_
        by_cases h1 : ahd (x + (stp d).1) (y + (stp d).2) d ∈ l
        · rw [if_pos h1] at go
          exact Evt.ite_pos (hx1.2 h1) go
        · rw [if_neg h1] at go
          refine Evt.ite_neg (fun h => h1 (hx1.1 h)) ((l02Index_eq l _ _ (by omega)).bind ?_)
          by_cases h2 : ahd (x + (stp d).1) (y + (stp d).2) ((d + 1) % 4) ∉ l
          · rw [if_pos h2] at go
            exact Evt.ite_pos (Int.not_le.1 fun h => h2 (hx2.1 h)) go
          · rw [if_neg h2] at go
            exact Evt.ite_neg (fun h => by have := hx2.2 (Classical.not_not.1 h2); omega) go
      · obtain ⟨m, rfl⟩ : ∃ i, m = i + 1 := ⟨m - 1, by omega⟩
        rw [hgo k (by omega) m, if_neg hend]
        exact hK2 k (by omega) m (by omega)
theorem words_both (l : List Cell) (h : Sh l = true) (ht : l.any (tch l) = false) : ∃ w, Evt (fun k => spec_l23Word.f k l) w ∧ Evt (fun k => impl_boundaryWord.f k l) w := by
  have hn := Sh_len h
  have hi : In 1000 l := fun c hc => by have := Sh_co h c hc; omega
  have hb : Bnd l ((l.getD 0 z35).f0, (l.getD 0 z35).f1, 0) := by
    refine ⟨by simp, ?_, above_first h⟩
    show (⟨(l.getD 0 z35).f0, (l.getD 0 z35).f1⟩ : Cell) ∈ l
    exact getD_mem0 l 0 z35 (by omega)
  obtain ⟨n, h1, h2, h3⟩ := round hb
  have e0 : rd_T35 l 0 = l.getD 0 z35 := rd_getD l 0
  obtain ⟨r, r1, K, r2⟩ := word_both (by omega) hi ht (sx := (l.getD 0 z35).f0) (sy := (l.getD 0 z35).f1) e0 (e0 := ((l.getD 0 z35).f0, (l.getD 0 z35).f1, 0)) ⟨rfl, rfl⟩ n _ [] hb h3 h1 (by simp; omega)
  refine ⟨strOfNums r, ?_, ?_⟩
  · unfold spec_l23Word.f
    rw [e0]
    exact Evt.ite_pos (by omega) r1
  · unfold impl_boundaryWord.f
    rw [e0]
    refine Evt.ite_pos (by omega) ?_
    have hev : Evt (fun k => impl_boundaryWord.go k l k (l.getD 0 z35) []) r := ⟨K + n, fun k hk => r2 k (by omega) k (by omega)⟩
    exact hev.bind Evt.pure
theorem plain_more (l : List Cell) (hl : l.length ≤ 1048576) : ∃ b, Evt (fun k => spec_IsPlain.f k l) b ∧ Evt (fun k => impl_IsPlain.f k l) b ∧ (b = true → Sh l = true ∧ l.any (tch l) = false) := by
  unfold spec_IsPlain.f impl_IsPlain.f impl_connectedCode.f
  obtain ⟨b, b1, b2, b3⟩ := conn_both l hl
  cases b
  · exact ⟨false, b1.bind (Evt.ite_neg (by simp) Evt.pure), Evt.bind (a := (1 : Int)) (b2.bind (Evt.ite_neg (by simp) Evt.pure)) (Evt.ite_neg (by simp) Evt.pure), by simp⟩
  · have hS := b3 rfl
    have h40 := Sh_len hS
    obtain ⟨e, e1, e2⟩ := code_both l hS
    have hc : Evt (fun k => (impl_IsConnected.f k l).bind fun t => if t = true then (impl_shapeCode.f k l).bind fun t => some t else some 1) e := b2.bind (Evt.ite_pos rfl (e2.bind Evt.pure))
    by_cases he : e = 0
    · cases l with
      | nil => simp at h40
      | cons c r =>
        obtain ⟨m, g, m1, g1, hm⟩ := holes_both c r (by omega) (fun d hd => Sh_co hS d hd)
        have ht := touch_evt (c :: r) (by omega)
        have ha := all_evt (c :: r) (by omega) (c :: r)
        generalize (c :: r).any (tch (c :: r)) = t at ht ha ⊢
        refine ⟨!t && decide (g = []), ?_, ?_, fun hb => ⟨hS, by cases t; rfl; simp at hb⟩⟩
        · refine b1.bind (Evt.ite_pos rfl (e1.bind (Evt.ite_pos he (ht.bind ?_))))
          cases t
          · refine Evt.ite_neg (by simp) (g1.bind (Evt.const ?_))
            cases g <;> simp
            omega
          · exact Evt.ite_pos rfl Evt.pure
        · refine hc.bind (Evt.ite_pos he (m1.bind ?_))
          by_cases hm0 : 0 < m
          · rw [decide_eq_false (hm.1 hm0), Bool.and_false]
            exact Evt.ite_pos hm0 Evt.pure
          · rw [decide_eq_true (Classical.not_not.1 fun h => hm0 (hm.2 h)), Bool.and_true]
            exact Evt.ite_neg hm0 ha
    · exact ⟨false, b1.bind (Evt.ite_pos rfl (e1.bind (Evt.ite_neg he Evt.pure))), hc.bind (Evt.ite_neg he Evt.pure), by simp⟩
theorem bw_both (l : List Cell) (hl : l.length ≤ 1048576) : ∃ w : ByteArray × Int, Evt (fun k => spec_BoundaryWord.f k l) w ∧ Evt (fun k => impl_BoundaryWord.f k l) w := by
  unfold spec_BoundaryWord.f impl_BoundaryWord.f
  obtain ⟨b, b1, b2, b3⟩ := plain_more l hl
  cases b
  · exact ⟨_, b1.bind (Evt.ite_neg (by simp) Evt.pure), b2.bind (Evt.ite_neg (by simp) Evt.pure)⟩
  · obtain ⟨h1, h2⟩ := b3 rfl
    obtain ⟨w, w1, w2⟩ := words_both l h1 h2
    exact ⟨(w, 0), b1.bind (Evt.ite_pos rfl (w1.bind Evt.pure)), b2.bind (Evt.ite_pos rfl (w2.bind Evt.pure))⟩
end Go.Proofs.Ytgfpmgmelhbkoaa.Pure
end
section
namespace Go.Proofs.Ytgfpmgmelhbkoaa.Pure
open Go.RowKit Go.Proofs.Ytgfpmgmelhbkoaa Go.Proofs.Ytgfpmgmelhbkoaa.Q Go.Proofs.YtgfpmgmelhbkoaaW.PrintWords
set_option linter.unusedVariables false
set_option linter.unusedSimpArgs false
abbrev LCell := S37
theorem rdL (l : List LCell) (i : Nat) (h : i < l.length) : rd_T37 l (i : Int) = l[i] := by
  simp [rd_T37, List.getD_eq_getElem?_getD, List.getElem?_eq_getElem h]
def toC (c : LCell) : Cell := ⟨c.f0, c.f1⟩
def toCs (l : List LCell) : List Cell := l.map toC
theorem toCs_len (l : List LCell) : (toCs l).length = l.length := by simp [toCs]
theorem szCellS_eq (l : List LCell) (h : l.length ≤ maxLen) : laws_szCellS.f l 1048576 = some (if l.length ≤ 1048576 then 1048576 - (l.length : Int) else -1) := by
  unfold maxLen at h
  unfold laws_szCellS.f
  rw [w64 (by omega) (by omega)]
  by_cases hl : l.length ≤ 1048576
  · rw [if_neg (by omega), if_pos hl]
  · rw [if_pos (by omega), if_neg hl]
theorem toCellS_loop (l : List LCell) (hl : l.length ≤ 1048576) : ∀ (i : Nat) (acc : List Cell), i ≤ l.length → (acc.length = l.length ∧ acc.take i = (toCs l).take i) → Evt (fun k => laws_toCellS.l0 k l acc (i : Int)) (toCs l) := by
  refine Evt.upS (R := fun _ _ => toCs l) ?_ ?_
  · rintro acc ⟨h1, h2⟩
    refine Evt.step (fun k => rfl) ?_
    simp only [laws_toCellS.l0]
    refine Evt.ite_neg (by omega) ?_
    rw [List.take_of_length_le (by omega), List.take_of_length_le (by rw [toCs_len]; omega)] at h2
    rw [h2]
    exact Evt.pure
  · rintro i acc hi ⟨h1, h2⟩ ih
    refine Evt.step (fun k => rfl) ?_
    simp only [laws_toCellS.l0, laws_toCell.f, Option.bind_some]
    refine Evt.ite_pos (by omega) (Evt.ite_pos (by omega) (Evt.ite_pos (by omega) ?_))
    rw [wrap_succ hi (by omega), Int.toNat_natCast]
    refine ih _ ⟨by simpa using h1, ?_⟩
    rw [rdL l i hi]
    apply List.ext_getElem?
    intro j
    have h3 := congrArg (fun z => z[j]?) h2
    simp only [List.getElem?_take] at h3 ⊢
    by_cases hj : j < i
    · rw [if_pos (by omega)] at h3 ⊢
      rw [if_pos (by omega)] at h3 ⊢
      rw [List.getElem?_set_ne (by omega)]
      exact h3
    · by_cases hj2 : j = i
      · subst hj2
        rw [if_pos (by omega), if_pos (by omega), List.getElem?_set_self (by omega)]
        simp [toCs, toC, List.getElem?_eq_getElem hi]
      · rw [if_neg (by omega), if_neg (by omega)]
theorem toCellS_eq (l : List LCell) (hl : l.length ≤ 1048576) : Evt (fun k => laws_toCellS.f k l) (toCs l) := by
  unfold laws_toCellS.f
  refine Evt.ite_pos (by omega) (Evt.ite_pos (by omega) ?_)
  exact toCellS_loop l hl 0 _ (Nat.zero_le _) ⟨by simp, by simp⟩
theorem eqCellS_refl (l : List Cell) (hl : l.length ≤ 9223372036854775807) : Evt (fun k => laws_eqCellS.f k l l) true := by
  unfold laws_eqCellS.f
  refine Evt.ite_pos rfl ?_
  refine Evt.up (g := fun k i => laws_eqCellS.l0 k l l (i : Int)) (R := fun _ => true) (n := l.length) ?_ ?_ 0 (Nat.zero_le _)
  · refine Evt.step (fun k => rfl) ?_
    simp only [laws_eqCellS.l0]
    exact Evt.ite_neg (by omega) Evt.pure
  · intro i hi ih
    refine Evt.step (fun k => rfl) ?_
    simp only [laws_eqCellS.l0, laws_eqCell.f, if_true, Option.bind_some]
    refine Evt.ite_pos (by omega) (Evt.ite_pos (by omega) (Evt.ite_pos (by omega) ?_))
    rw [wrap_succ hi hl]
    exact ih
end Go.Proofs.Ytgfpmgmelhbkoaa.Pure
end
section
namespace Go.Proofs.Ytgfpmgmelhbkoaa.Pure
open Go.RowKit Go.Proofs.Ytgfpmgmelhbkoaa Go.Proofs.Ytgfpmgmelhbkoaa.Q Go.Proofs.Ytgfpmgmelhbkoaa.UFnExactBoundaryWord Go.Proofs.YtgfpmgmelhbkoaaW.PrintWords
set_option linter.unusedVariables false
set_option linter.unusedSimpArgs false
theorem FnExactBoundaryWord : laws_FnExactBoundaryWord_Pure := by
  intro l hl
  apply Evt.out
  unfold laws_FnExactBoundaryWord.f
  rw [szCellS_eq l hl.1]
  simp only [Option.bind_some]
  by_cases h : l.length ≤ 1048576
  · rw [if_pos h]
    refine Evt.ite_neg (by omega) ?_
    have hL : (toCs l).length ≤ 1048576 := by rw [toCs_len]; exact h
    obtain ⟨w, w1, w2⟩ := bw_both (toCs l) hL
    refine (toCellS_eq l h).bind (w1.bind ((toCellS_eq l h).bind (w2.bind ?_)))
    refine Evt.ite_pos rfl (Evt.step (fun k => rfl) ?_)
    simp only [laws_FnExactBoundaryWord.j0]
    exact Evt.ite_neg (by simp) ((toCellS_eq l h).bind ((eqCellS_refl _ (by omega)).bind (Evt.ite_pos rfl Evt.pure)))
  · rw [if_neg h]
    exact Evt.ite_pos (by omega) Evt.pure
end Go.Proofs.Ytgfpmgmelhbkoaa.Pure
end
