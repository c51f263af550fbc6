/- The pure side of the law FnFactorings: parts of this session, put into one text by merge.py. -/
import Derived.Test.YtcgnnfaemjjljaaDoorQ0
import Derived.Test.YtcgnnfaemjjljaaDoorOpn
import Derived.Test.YtcgnnfaemjjljaaDoorQ7
import Derived.Test.YtcgnnfaemjjljaaDoorQ12
import Derived.Test.YtcgnnfaemjjljaaDoorQ23
import Derived.Test.YtcgnnfaemjjljaaDoorQ18
import Derived.Test.YtcgnnfaemjjljaaDoorQ24
import Derived.Test.YtcgnnfaemjjljaaDoorQ20
import Derived.Test.YtcgnnfaemjjljaaDoorQ19
import Derived.Test.YtcgnnfaemjjljaaDoorQ21
import Derived.Test.YtcgnnfaemjjljaaDoorQ22
import Derived.Test.YtcgnnfaemjjljaaDoorQGspecl01From
import Derived.Test.YtcgnnfaemjjljaaDoorQGspecl01Next
import Derived.Test.YtcgnnfaemjjljaaDoorQ25
import Derived.Test.YtcgnnfaemjjljaaDoorQ26
import Derived.Test.YtcgnnfaemjjljaaDoorQ27
import Derived.Test.YtcgnnfaemjjljaaDoorQ28
import Derived.Test.YtcgnnfaemjjljaaDoorQ29
import Derived.Test.YtcgnnfaemjjljaaDoorQ30
import Derived.Test.YtcgnnfaemjjljaaDoorQ31
import Derived.Test.YtcgnnfaemjjljaaDoorQ32
import Derived.Lib.Strings
import Derived.Test.YtcgnnfaemjjljaaDoorQGstringsTrim
import Derived.Test.YtcgnnfaemjjljaaDoorQ4
import Derived.Test.YtcgnnfaemjjljaaDoorQGimplturnWord
import Derived.Test.YtcgnnfaemjjljaaDoorQ6
import Derived.Test.YtcgnnfaemjjljaaDoorQGstringsCount
import Derived.Test.YtcgnnfaemjjljaaDoorQGimplWordArea
import Derived.Test.YtcgnnfaemjjljaaDoorQGimplbackWord
import Derived.Test.YtcgnnfaemjjljaaDoorQ8
import Derived.Test.YtcgnnfaemjjljaaDoorQ9
import Derived.Test.YtcgnnfaemjjljaaDoorQ13
import Derived.Test.YtcgnnfaemjjljaaDoorQ10
import Derived.Test.YtcgnnfaemjjljaaDoorQ14
import Derived.Test.YtcgnnfaemjjljaaDoorQ15
import Derived.Test.YtcgnnfaemjjljaaDoorQ16
import Derived.Test.YtcgnnfaemjjljaaDoorQ17
import Derived.Test.YtcgnnfaemjjljaaDoorQ33
import Derived.Test.YtcgnnfaemjjljaaDoorQ34
import Derived.Test.YtcgnnfaemjjljaaDoorUFnFactorings
section
namespace Go.Proofs.YtcgnnfaemjjljaaDoor.Pure
open Go.RowKit
set_option linter.unusedVariables false
set_option linter.unusedSimpArgs false
def Evt {α : Type} (g : Nat → Option α) (r : α) : Prop := ∃ K, ∀ k, K ≤ k → g k = some r
theorem Evt.out {α : Type} {g : Nat → Option α} {r : α} (h : Evt g r) : ∃ k, g k = some r := by
  obtain ⟨K, h⟩ := h
  exact ⟨K, h K (Nat.le_refl _)⟩
theorem Evt.pure {α : Type} {r : α} : Evt (fun _ => some r) r := ⟨0, fun _ _ => rfl⟩
theorem Evt.const {α : Type} {o : Option α} {r : α} (h : o = some r) : Evt (fun _ => o) r := ⟨0, fun _ _ => h⟩
theorem Evt.of_eq {α : Type} {g g' : Nat → Option α} {r : α} (e : ∀ k, g' k = g k) (h : Evt g r) : Evt g' r := by
  obtain ⟨K, h⟩ := h
  exact ⟨K, fun k hk => (e k).trans (h k hk)⟩
theorem Evt.bind {α β : Type} {g : Nat → Option α} {f : Nat → α → Option β} {a : α} {r : β} (h : Evt g a) (h2 : Evt (fun k => f k a) r) : Evt (fun k => (g k).bind (f k)) r := by
  obtain ⟨K, h⟩ := h
  obtain ⟨K2, h2⟩ := h2
  refine ⟨K + K2, fun k hk => ?_⟩
  show (g k).bind (f k) = some r
  rw [h k (by omega)]
  exact h2 k (by omega)
theorem Evt.step {α : Type} {g h : Nat → Option α} {r : α} (e : ∀ k, g (k + 1) = h k) (hh : Evt h r) : Evt g r := by
  obtain ⟨K, hh⟩ := hh
  refine ⟨K + 1, fun k hk => ?_⟩
  obtain ⟨m, rfl⟩ : ∃ m, k = m + 1 := ⟨k - 1, by omega⟩
  rw [e m]
  exact hh m (by omega)
theorem Evt.ite_pos {α : Type} {c : Prop} [Decidable c] {g h : Nat → Option α} {r : α} (hc : c) (hg : Evt g r) : Evt (fun k => if c then g k else h k) r := Evt.of_eq (fun k => if_pos hc) hg
theorem Evt.ite_neg {α : Type} {c : Prop} [Decidable c] {g h : Nat → Option α} {r : α} (hc : ¬ c) (hg : Evt h r) : Evt (fun k => if c then g k else h k) r := Evt.of_eq (fun k => if_neg hc) hg
theorem Evt.up {α : Type} {g : Nat → Nat → Option α} {R : Nat → α} {n : Nat} (hend : Evt (fun k => g k n) (R n)) (hstep : ∀ i, i < n → Evt (fun k => g k (i + 1)) (R (i + 1)) → Evt (fun k => g k i) (R i)) : ∀ i, i ≤ n → Evt (fun k => g k i) (R i) := by
  intro i hi
  obtain ⟨d, hd⟩ : ∃ d, n = i + d := ⟨n - i, by omega⟩
  induction d generalizing i with
  | zero => have e : i = n := by omega
            rw [e]; exact hend
  | succ d ih => exact hstep i (by omega) (ih (i + 1) (by omega) (by omega))
theorem Evt.upS {α σ : Type} {g : Nat → Nat → σ → Option α} {R : Nat → σ → α} {P : Nat → σ → Prop} {n : Nat} (hend : ∀ s, P n s → Evt (fun k => g k n s) (R n s))
    (hstep : ∀ i s, i < n → P i s → (∀ s', P (i + 1) s' → Evt (fun k => g k (i + 1) s') (R (i + 1) s')) → Evt (fun k => g k i s) (R i s)) : ∀ i s, i ≤ n → P i s → Evt (fun k => g k i s) (R i s) := by
  intro i s hi hp
  obtain ⟨d, hd⟩ : ∃ d, n = i + d := ⟨n - i, by omega⟩
  induction d generalizing i s with
  | zero => have e : i = n := by omega
            rw [e] at hp ⊢; exact hend s hp
  | succ d ih => exact hstep i s (by omega) hp (fun s' hp' => ih (i + 1) s' (by omega) hp' (by omega))
def Both {α : Type} (g h : Nat → Option α) : Prop := ∃ r, Evt g r ∧ Evt h r
theorem Both.of {α : Type} {g h : Nat → Option α} {r : α} (a : Evt g r) (b : Evt h r) : Both g h := ⟨r, a, b⟩
theorem Both.stepl {α : Type} {g g' h : Nat → Option α} (e : ∀ k, g (k + 1) = g' k) (b : Both g' h) : Both g h := by
  obtain ⟨r, a, b⟩ := b
  exact ⟨r, a.step e, b⟩
theorem Both.stepr {α : Type} {g h h' : Nat → Option α} (e : ∀ k, h (k + 1) = h' k) (b : Both g h') : Both g h := by
  obtain ⟨r, a, b⟩ := b
  exact ⟨r, a, b.step e⟩
theorem Both.eql {α : Type} {g g' h : Nat → Option α} (e : ∀ k, g k = g' k) (b : Both g' h) : Both g h := by
  obtain ⟨r, a, b⟩ := b
  exact ⟨r, a.of_eq e, b⟩
theorem Both.eqr {α : Type} {g h h' : Nat → Option α} (e : ∀ k, h k = h' k) (b : Both g h') : Both g h := by
  obtain ⟨r, a, b⟩ := b
  exact ⟨r, a, b.of_eq e⟩
theorem Both.bindl {α β : Type} {g : Nat → Option β} {f : Nat → β → Option α} {h : Nat → Option α} {x : β} (e : Evt g x) (b : Both (fun k => f k x) h) : Both (fun k => (g k).bind (f k)) h := by
  obtain ⟨r, a, b⟩ := b
  exact ⟨r, e.bind a, b⟩
theorem Both.bindr {α β : Type} {g : Nat → Option β} {f : Nat → β → Option α} {h : Nat → Option α} {x : β} (e : Evt g x) (b : Both h (fun k => f k x)) : Both h (fun k => (g k).bind (f k)) := by
  obtain ⟨r, a, b⟩ := b
  exact ⟨r, a, e.bind b⟩
theorem Both.pure {α : Type} {r : α} : Both (fun _ => some r) (fun _ => some r) := ⟨r, Evt.pure, Evt.pure⟩
theorem Both.pl {α : Type} {c : Prop} [Decidable c] {g g' h : Nat → Option α} (hc : c) (b : Both g h) : Both (fun k => if c then g k else g' k) h := Both.eql (fun _ => if_pos hc) b
theorem Both.nl {α : Type} {c : Prop} [Decidable c] {g g' h : Nat → Option α} (hc : ¬ c) (b : Both g' h) : Both (fun k => if c then g k else g' k) h := Both.eql (fun _ => if_neg hc) b
theorem Both.pr {α : Type} {c : Prop} [Decidable c] {g h h' : Nat → Option α} (hc : c) (b : Both g h) : Both g (fun k => if c then h k else h' k) := Both.eqr (fun _ => if_pos hc) b
theorem Both.nr {α : Type} {c : Prop} [Decidable c] {g h h' : Nat → Option α} (hc : ¬ c) (b : Both g h') : Both g (fun k => if c then h k else h' k) := Both.eqr (fun _ => if_neg hc) b
theorem wrap_succ {i n : Nat} (h : i < n) (hn : n ≤ 9223372036854775807) : wrap64 ((i : Int) + 1) = ((i + 1 : Nat) : Int) := by
  unfold wrap64
  omega
end Go.Proofs.YtcgnnfaemjjljaaDoor.Pure
end
section
namespace Go.Proofs.YtcgnnfaemjjljaaDoor.Pure
open Go.RowKit Go.Proofs.YtcgnnfaemjjljaaDoor Go.Proofs.YtcgnnfaemjjljaaDoor.Q Go.Proofs.YtcgnnfaemjjljaaDoorW.PrintWords
set_option linter.unusedVariables false
set_option linter.unusedSimpArgs false
theorem w64 {n : Int} (h0 : -9223372036854775808 ≤ n) (h1 : n ≤ 9223372036854775807) : wrap64 n = n := by
  unfold wrap64
  omega
theorem in_eq (a b c : Int) : spec_l01In.f a b c = some (decide (b ≤ a ∧ a ≤ c)) := by
  unfold spec_l01In.f
  by_cases h : a ≥ b
  · rw [if_pos h]; simp; intro _; exact h
  · rw [if_neg h]; simp; intro h2; omega
theorem within_eq (a b c : Int) : impl_within.f a b c = some (decide (b ≤ a ∧ a ≤ c)) := in_eq a b c
end Go.Proofs.YtcgnnfaemjjljaaDoor.Pure
end
section
namespace Go.Proofs.YtcgnnfaemjjljaaDoor.Pure
open Go.RowKit Go.Proofs.YtcgnnfaemjjljaaDoor Go.Proofs.YtcgnnfaemjjljaaDoor.Q Go.Proofs.YtcgnnfaemjjljaaDoorW.PrintWords
set_option linter.unusedVariables false
set_option linter.unusedSimpArgs false
def Co (x : Int) : Bool := decide (-100 ≤ x ∧ x ≤ 100)
theorem Co_iff {x : Int} : Co x = true ↔ -100 ≤ x ∧ x ≤ 100 := by simp [Co]
theorem l02Cell_eq (x y : Int) : spec_l02Cell.f x y = some (Co x && Co y) := by
  unfold spec_l02Cell.f Co
  rw [in_eq]
  simp only [Option.bind_some]
  by_cases c : -100 ≤ x ∧ x ≤ 100
  · rw [if_pos (by simpa using c), in_eq]
    simp [c]
  · rw [if_neg (by simpa using c)]
    simp [c]
end Go.Proofs.YtcgnnfaemjjljaaDoor.Pure
end
section
namespace Go.Proofs.YtcgnnfaemjjljaaDoor.Pure
open Go.RowKit Go.Proofs.YtcgnnfaemjjljaaDoor Go.Proofs.YtcgnnfaemjjljaaDoor.Q Go.Proofs.YtcgnnfaemjjljaaDoorW.PrintWords
set_option linter.unusedVariables false
set_option linter.unusedSimpArgs false
abbrev Cell := S42
def allF (ok : Nat → Bool) (n i : Nat) : Bool := (List.range' i (n - i)).all ok
theorem allF_end (ok : Nat → Bool) (n : Nat) : allF ok n n = true := by simp [allF]
theorem allF_succ (ok : Nat → Bool) {n i : Nat} (h : i < n) : allF ok n i = (ok i && allF ok n (i + 1)) := by
  unfold allF
  rw [show n - i = (n - (i + 1)) + 1 by omega, List.range'_succ]
  rfl
theorem allF_true {ok : Nat → Bool} {n i : Nat} : allF ok n i = true ↔ ∀ j, i ≤ j → j < n → ok j = true := by
  unfold allF
  rw [List.all_eq_true]
  constructor
  · intro h j h1 h2
    exact h j (by rw [List.mem_range'_1]; omega)
  · intro h j hj
    rw [List.mem_range'_1] at hj
    exact h j (by omega) (by omega)
def lessC (a b : Cell) : Bool := decide (a.f1 < b.f1) || (decide (a.f1 = b.f1) && decide (a.f0 < b.f0))
theorem l02Less_eq (a b : Cell) : spec_l02Less.f a.f0 a.f1 b.f0 b.f1 = some (lessC a b) := by
  unfold spec_l02Less.f lessC
  by_cases h : a.f1 < b.f1
  · simp [h]
  · by_cases h2 : a.f1 = b.f1
    · simp [h2]
    · simp [h, h2]
def shOk (l : List Cell) (i : Nat) : Bool := (Co (l.getD i z42).f0 && Co (l.getD i z42).f1) && (decide (i = 0) || lessC (l.getD (i - 1) z42) (l.getD i z42))
def Sh (l : List Cell) : Bool := allF (shOk l) l.length 0 && decide (1 ≤ l.length ∧ l.length ≤ 40)
theorem rd_getD (l : List Cell) (i : Nat) : rd_T42 l (i : Int) = l.getD i z42 := by simp [rd_T42]
theorem spec_IsShape_eq (l : List Cell) (hl : l.length ≤ 9223372036854775807) : Evt (fun k => spec_IsShape.f k l) (Sh l) := by
  unfold spec_IsShape.f
  refine Evt.up (g := fun k i => spec_IsShape.l0 k l (i : Int)) (R := fun i => allF (shOk l) l.length i && decide (1 ≤ l.length ∧ l.length ≤ 40)) (n := l.length) ?_ ?_ 0 (Nat.zero_le _)
  · refine Evt.step (fun k => rfl) ?_
    simp only [spec_IsShape.l0]
    refine Evt.ite_neg (by omega) ?_
    rw [in_eq, allF_end, Bool.true_and]
    refine Evt.const ?_
    simp only [Option.bind_some]
    congr 1
    exact decide_eq_decide.2 (by omega)
  · intro i hi ih
    refine Evt.step (fun k => rfl) ?_
    simp only [spec_IsShape.l0, l02Cell_eq, Option.bind_some]
    refine Evt.ite_pos (by omega) (Evt.ite_pos (by omega) ?_)
    rw [allF_succ _ hi]
    simp only [rd_getD]
    by_cases hc : (Co (l.getD i z42).f0 && Co (l.getD i z42).f1) = true
    · refine Evt.ite_pos hc ?_
      by_cases h0 : i = 0
      · subst h0
        refine Evt.ite_neg (by omega) ?_
        rw [wrap_succ hi hl]
        have e : shOk l 0 = true := by unfold shOk; rw [hc]; rfl
        rw [e, Bool.true_and]
        exact ih
      · refine Evt.ite_pos (by omega) ?_
        have ew : wrap64 ((i : Int) - 1) = ((i - 1 : Nat) : Int) := by rw [w64 (by omega) (by omega)]; omega
        simp only [ew, rd_getD, l02Less_eq, Option.bind_some]
        refine Evt.ite_pos (by omega) (Evt.ite_pos (by omega) ?_)
        rw [wrap_succ hi hl]
        by_cases hls : lessC (l.getD (i - 1) z42) (l.getD i z42) = true
        · refine Evt.ite_pos hls ?_
          have e : shOk l i = true := by unfold shOk; rw [hc, hls]; simp
          rw [e, Bool.true_and]
          exact ih
        · refine Evt.ite_neg hls ?_
          have e : shOk l i = false := by unfold shOk; rw [hc, Bool.eq_false_iff.mpr hls]; simp [h0]
          rw [e]
          exact Evt.pure
    · refine Evt.ite_neg hc ?_
      have e : shOk l i = false := by unfold shOk; rw [Bool.eq_false_iff.mpr hc]; rfl
      rw [e]
      exact Evt.pure
theorem Sh_len {l : List Cell} (h : Sh l = true) : 1 ≤ l.length ∧ l.length ≤ 40 := by
  unfold Sh at h
  simp only [Bool.and_eq_true, decide_eq_true_eq] at h
  exact h.2
theorem Sh_co {l : List Cell} (h : Sh l = true) : ∀ c ∈ l, (-100 ≤ c.f0 ∧ c.f0 ≤ 100) ∧ -100 ≤ c.f1 ∧ c.f1 ≤ 100 := by
  intro c hc
  obtain ⟨i, hi, rfl⟩ := List.getElem_of_mem hc
  unfold Sh at h
  simp only [Bool.and_eq_true, decide_eq_true_eq] at h
  have h2 := allF_true.1 h.1 i (Nat.zero_le _) hi
  unfold shOk at h2
  simp only [Bool.and_eq_true, List.getD_eq_getElem?_getD, List.getElem?_eq_getElem hi, Option.getD_some] at h2
  exact ⟨Co_iff.1 h2.1.1, Co_iff.1 h2.1.2⟩
end Go.Proofs.YtcgnnfaemjjljaaDoor.Pure
end
section
namespace Go.Proofs.YtcgnnfaemjjljaaDoor.Pure
open Go.RowKit Go.Proofs.YtcgnnfaemjjljaaDoor Go.Proofs.YtcgnnfaemjjljaaDoor.Q Go.Proofs.YtcgnnfaemjjljaaDoorW.PrintWords
set_option linter.unusedVariables false
set_option linter.unusedSimpArgs false
def cc (p : Int × Int) : Cell := ⟨p.1, p.2⟩
def ixAt (p : Int × Int) : Nat → List Cell → Int
  | _, [] => -1
  | i, c :: r => if c.f0 = p.1 ∧ c.f1 = p.2 then (i : Int) else ixAt p (i + 1) r
theorem ixAt_mem (p : Int × Int) : ∀ (l : List Cell) (i : Nat), 0 ≤ ixAt p i l ↔ cc p ∈ l
  | [], i => by simp [ixAt]
  | c :: r, i => by
    unfold ixAt
    by_cases h : c.f0 = p.1 ∧ c.f1 = p.2
    · rw [if_pos h]
      have e : c = cc p := by
        cases c
        unfold cc
        simp at h
        rw [h.1, h.2]
      simp [e]
    · rw [if_neg h, ixAt_mem p r (i + 1), List.mem_cons]
      constructor
      · exact fun h2 => Or.inr h2
      · rintro (e | h2)
        · exact absurd (by rw [← e]; exact ⟨rfl, rfl⟩) h
        · exact h2
theorem drop_getD {α : Type} (l : List α) (i : Nat) (z : α) (h : i < l.length) : l.drop i = l.getD i z :: l.drop (i + 1) := by
  rw [List.drop_eq_getElem_cons h]
  simp [List.getD_eq_getElem?_getD, List.getElem?_eq_getElem h]
theorem l02Index_eq (l : List Cell) (x y : Int) (hl : l.length ≤ 9223372036854775807) : Evt (fun k => spec_l02Index.f k l x y) (ixAt (x, y) 0 l) := by
  unfold spec_l02Index.f
  have h := Evt.up (g := fun k i => spec_l02Index.l0 k l (i : Int) x y) (R := fun i => ixAt (x, y) i (l.drop i)) (n := l.length) ?_ ?_ 0 (Nat.zero_le _)
  · exact h
  · refine Evt.step (fun k => rfl) ?_
    simp only [spec_l02Index.l0]
    refine Evt.ite_neg (by omega) ?_
    rw [List.drop_length]
    exact Evt.pure
  · intro i hi ih
    refine Evt.step (fun k => rfl) ?_
    simp only [spec_l02Index.l0, rd_getD]
    refine Evt.ite_pos (by omega) (Evt.ite_pos (by omega) ?_)
    rw [drop_getD l i z42 hi]
    unfold ixAt
    by_cases hc : (l.getD i z42).f0 = x ∧ (l.getD i z42).f1 = y
    · rw [if_pos hc]
      refine Evt.ite_pos (by rw [hc.1, hc.2]; simp) Evt.pure
    · rw [if_neg hc]
      refine Evt.ite_neg (by simpa using hc) ?_
      rw [wrap_succ hi hl]
      exact ih
end Go.Proofs.YtcgnnfaemjjljaaDoor.Pure
end
section
namespace Go.Proofs.YtcgnnfaemjjljaaDoor.Pure
open Go.RowKit Go.Proofs.YtcgnnfaemjjljaaDoor Go.Proofs.YtcgnnfaemjjljaaDoor.Q Go.Proofs.YtcgnnfaemjjljaaDoorW.PrintWords
set_option linter.unusedVariables false
set_option linter.unusedSimpArgs false
theorem getD_cell (l : List Cell) (i : Nat) : (⟨(l.getD i z42).f0, (l.getD i z42).f1⟩ : Cell) = l.getD i z42 := rfl
def ins (c : Cell) : List Cell → List Cell
  | [] => [c]
  | d :: r => if lessC c d = true then c :: d :: r else d :: ins c r
theorem ins_perm (c : Cell) : ∀ l : List Cell, (ins c l).Perm (c :: l)
  | [] => List.Perm.refl _
  | d :: r => by
    unfold ins
    by_cases h : lessC c d = true
    · rw [if_pos h]
    · rw [if_neg h]
      exact ((ins_perm c r).cons d).trans (List.Perm.swap _ _ _)
theorem ins_len (c : Cell) (l : List Cell) : (ins c l).length = l.length + 1 := (ins_perm c l).length_eq
theorem ins_mem {c d : Cell} {l : List Cell} : d ∈ ins c l ↔ d = c ∨ d ∈ l := by rw [(ins_perm c l).mem_iff, List.mem_cons]
theorem insert_done (l : List Cell) (x y : Int) (hl : l.length ≤ 1000000) : ∀ (i : Nat) (out : List Cell), i ≤ l.length → out.length = i + 1 → Evt (fun k => spec_l02Insert.l0 k l out true (i : Int) x y) (out ++ l.drop i) := by
  refine Evt.upS (g := fun k i out => spec_l02Insert.l0 k l out true (i : Int) x y) (R := fun i out => out ++ l.drop i) (P := fun i out => out.length = i + 1) ?_ ?_
  · intro out _
    refine Evt.step (fun k => rfl) ?_
    simp only [spec_l02Insert.l0]
    refine Evt.ite_neg (by omega) (Evt.ite_pos trivial ?_)
    rw [List.drop_length, List.append_nil]
    exact Evt.pure
  · intro i out hi hp ih
    refine Evt.step (fun k => rfl) ?_
    simp only [spec_l02Insert.l0, rd_getD, getD_cell]
    refine Evt.ite_pos (by omega) (Evt.ite_pos trivial (Evt.ite_pos (by omega) (Evt.ite_pos (by omega) ?_)))
    rw [wrap_succ hi (by omega), drop_getD l i z42 hi]
    have := ih (out ++ [l.getD i z42]) (by simp [hp])
    rw [List.append_assoc] at this
    exact this
theorem l02Insert_eq (l : List Cell) (c : Cell) (hl : l.length ≤ 1000000) : Evt (fun k => spec_l02Insert.f k l c.f0 c.f1) (ins c l) := by
  unfold spec_l02Insert.f
  have h := Evt.upS (g := fun k i out => spec_l02Insert.l0 k l out false (i : Int) c.f0 c.f1) (R := fun i out => out ++ ins c (l.drop i)) (P := fun i out => out.length = i) (n := l.length) ?_ ?_ 0 [] (Nat.zero_le _) rfl
  · exact h
  · intro out hp
    refine Evt.step (fun k => rfl) ?_
    simp only [spec_l02Insert.l0]
    refine Evt.ite_neg (by omega) (Evt.ite_neg (by simp) (Evt.ite_pos (by omega) ?_))
    rw [List.drop_length]
    exact Evt.pure
  · intro i out hi hp ih
    refine Evt.step (fun k => rfl) ?_
    simp only [spec_l02Insert.l0, rd_getD, getD_cell, l02Less_eq, Option.bind_some]
    refine Evt.ite_pos (by omega) (Evt.ite_neg (by simp) (Evt.ite_pos (by omega) ?_))
    rw [drop_getD l i z42 hi, wrap_succ hi (by omega)]
    unfold ins
    by_cases hc : lessC c (l.getD i z42) = true
    · rw [if_pos hc]
      refine Evt.ite_pos hc (Evt.ite_pos (by omega) (Evt.ite_pos (by simp; omega) ?_))
      have := insert_done l c.f0 c.f1 hl (i + 1) ((out ++ [c]) ++ [l.getD i z42]) (by omega) (by simp [hp])
      rw [List.append_assoc, List.append_assoc] at this
      rw [List.append_assoc]
      exact this
    · rw [if_neg hc]
      refine Evt.ite_neg hc (Evt.ite_pos (by omega) ?_)
      have := ih (out ++ [l.getD i z42]) (by simp [hp])
      rw [List.append_assoc] at this
      exact this
def sortC (l : List Cell) : List Cell := l.foldl (fun acc c => ins c acc) []
def movC (l : List Cell) (x y : Int) : List Cell := l.map fun c => ⟨c.f0 + x, c.f1 + y⟩
theorem movC_len (l : List Cell) (x y : Int) : (movC l x y).length = l.length := by simp [movC]
def In (b : Int) (l : List Cell) : Prop := ∀ c ∈ l, (-b ≤ c.f0 ∧ c.f0 ≤ b) ∧ -b ≤ c.f1 ∧ c.f1 ≤ b
theorem In.at {b : Int} {l : List Cell} (h : In b l) (i : Nat) (hi : i < l.length) : (-b ≤ (l.getD i z42).f0 ∧ (l.getD i z42).f0 ≤ b) ∧ -b ≤ (l.getD i z42).f1 ∧ (l.getD i z42).f1 ≤ b :=
  h _ (by rw [List.getD_eq_getElem?_getD, List.getElem?_eq_getElem hi]; exact List.getElem_mem hi)
theorem movC_drop (l : List Cell) (x y : Int) (i : Nat) (hi : i < l.length) : movC (l.drop i) x y = (⟨(l.getD i z42).f0 + x, (l.getD i z42).f1 + y⟩ : Cell) :: movC (l.drop (i + 1)) x y := by
  rw [drop_getD l i z42 hi]
  rfl
theorem l02Move_eq (l : List Cell) (x y : Int) (hl : l.length ≤ 1000000) (hi : In 1000000000 l) (hx : -1000000000 ≤ x ∧ x ≤ 1000000000) (hy : -1000000000 ≤ y ∧ y ≤ 1000000000) : Evt (fun k => spec_l02Move.f k l x y) (movC l x y) := by
  unfold spec_l02Move.f
  have h := Evt.upS (g := fun k i acc => spec_l02Move.l0 k l x y acc (i : Int)) (R := fun i acc => acc ++ movC (l.drop i) x y) (P := fun i acc => acc.length = i) (n := l.length) ?_ ?_ 0 [] (Nat.zero_le _) rfl
  · exact h
  · intro out hp
    refine Evt.step (fun k => rfl) ?_
    simp only [spec_l02Move.l0]
    refine Evt.ite_neg (by omega) ?_
    rw [List.drop_length]
    exact Evt.const (by simp [movC])
  · intro i acc hi2 hp ih
    have hb := In.at hi i hi2
    refine Evt.step (fun k => rfl) ?_
    simp only [spec_l02Move.l0, rd_getD]
    refine Evt.ite_pos (by omega) (Evt.ite_pos (by omega) (Evt.ite_pos (by omega) ?_))
    rw [w64 (n := (l.getD i z42).f0 + x) (by omega) (by omega), w64 (n := (l.getD i z42).f1 + y) (by omega) (by omega), wrap_succ hi2 (by omega), movC_drop l x y i hi2]
    have := ih (acc ++ [⟨(l.getD i z42).f0 + x, (l.getD i z42).f1 + y⟩]) (by simp [hp])
    rw [List.append_assoc] at this
    exact this
def leastF (l : List Cell) (p : Int × Int) : Int × Int := l.foldl (fun p c => (mn p.1 c.f0, mn p.2 c.f1)) p
def leastC (l : List Cell) : Int × Int := leastF (l.drop 1) ((l.getD 0 z42).f0, (l.getD 0 z42).f1)
theorem l02Least_eq (l : List Cell) (h0 : l ≠ []) (hl : l.length ≤ 1000000) : Evt (fun k => spec_l02Least.f k l) (leastC l) := by
  have hp : 0 < l.length := List.length_pos_iff.2 h0
  unfold spec_l02Least.f
  refine Evt.ite_pos (by omega) ?_
  have h := Evt.upS (g := fun k i (p : Int × Int) => spec_l02Least.l0 k l p.1 p.2 (i : Int)) (R := fun i p => leastF (l.drop i) p) (P := fun _ _ => True) (n := l.length) ?_ ?_ 1 ((l.getD 0 z42).f0, (l.getD 0 z42).f1) hp trivial
  · exact h
  · rintro ⟨a, b⟩ _
    refine Evt.step (fun k => rfl) ?_
    simp only [spec_l02Least.l0]
    refine Evt.ite_neg (by omega) ?_
    rw [List.drop_length]
    exact Evt.pure
  · rintro i ⟨a, b⟩ hi _ ih
    refine Evt.step (fun k => rfl) ?_
    simp only [spec_l02Least.l0, rd_getD]
    refine Evt.ite_pos (by omega) (Evt.ite_pos (by omega) ?_)
    rw [wrap_succ hi (by omega), drop_getD l i z42 hi]
    exact ih (mn a (l.getD i z42).f0, mn b (l.getD i z42).f1) trivial
theorem leastF_le (l : List Cell) (p : Int × Int) : (leastF l p).1 ≤ p.1 ∧ (leastF l p).2 ≤ p.2 ∧ ∀ c ∈ l, (leastF l p).1 ≤ c.f0 ∧ (leastF l p).2 ≤ c.f1 := by
  induction l generalizing p with
  | nil => exact ⟨Int.le_refl _, Int.le_refl _, by simp⟩
  | cons c r ih =>
    obtain ⟨a, b, h⟩ := ih (mn p.1 c.f0, mn p.2 c.f1)
    unfold leastF at *
    rw [List.foldl_cons]
    simp only at a b
    have m1 : mn p.1 c.f0 ≤ p.1 ∧ mn p.1 c.f0 ≤ c.f0 := by unfold mn; omega
    have m2 : mn p.2 c.f1 ≤ p.2 ∧ mn p.2 c.f1 ≤ c.f1 := by unfold mn; omega
    refine ⟨by omega, by omega, fun d hd => ?_⟩
    rcases List.mem_cons.1 hd with rfl | hd
    · omega
    · exact h d hd
theorem leastF_ge (l : List Cell) (p : Int × Int) (b : Int) (hp : b ≤ p.1 ∧ b ≤ p.2) (h : ∀ c ∈ l, b ≤ c.f0 ∧ b ≤ c.f1) : b ≤ (leastF l p).1 ∧ b ≤ (leastF l p).2 := by
  induction l generalizing p with
  | nil => exact hp
  | cons c r ih =>
    unfold leastF at *
    rw [List.foldl_cons]
    have hc := h c List.mem_cons_self
    exact ih _ (by unfold mn; simp only; omega) (fun d hd => h d (List.mem_cons_of_mem _ hd))
theorem leastC_le {l : List Cell} : ∀ c ∈ l, (leastC l).1 ≤ c.f0 ∧ (leastC l).2 ≤ c.f1 := by
  intro c hc
  cases l with
  | nil => cases hc
  | cons d r =>
    have h := leastF_le r (d.f0, d.f1)
    have e : leastC (d :: r) = leastF r (d.f0, d.f1) := rfl
    rw [e]
    rcases List.mem_cons.1 hc with rfl | hc
    · exact ⟨h.1, h.2.1⟩
    · exact h.2.2 c hc
theorem leastC_in {l : List Cell} {b : Int} (h0 : l ≠ []) (h : In b l) : (-b ≤ (leastC l).1 ∧ (leastC l).1 ≤ b) ∧ -b ≤ (leastC l).2 ∧ (leastC l).2 ≤ b := by
  cases l with
  | nil => exact absurd rfl h0
  | cons d r =>
    have hd := h d List.mem_cons_self
    have h1 := leastC_le (l := d :: r) d List.mem_cons_self
    have e : leastC (d :: r) = leastF r (d.f0, d.f1) := rfl
    have h2 := leastF_ge r (d.f0, d.f1) (-b) ⟨hd.1.1, hd.2.1⟩ (fun c hc => ⟨(h c (List.mem_cons_of_mem _ hc)).1.1, (h c (List.mem_cons_of_mem _ hc)).2.1⟩)
    rw [← e] at h2
    omega
def normC (l : List Cell) : List Cell := movC l (-(leastC l).1) (-(leastC l).2)
theorem l02Normal_eq (l : List Cell) (h0 : l ≠ []) (hl : l.length ≤ 1000000) (hi : In 1000000 l) : Evt (fun k => spec_l02Normal.f k l) (normC l) := by
  unfold spec_l02Normal.f
  have hb := leastC_in h0 hi
  refine (l02Least_eq l h0 hl).bind ?_
  rw [w64 (by omega) (by omega), w64 (by omega) (by omega)]
  exact (l02Move_eq l _ _ hl (fun c hc => by have := hi c hc; omega) (by omega) (by omega)).bind Evt.pure
def arC (c : Cell) : List Cell := [⟨c.f0, c.f1 - 1⟩, ⟨c.f0 - 1, c.f1⟩, ⟨c.f0 + 1, c.f1⟩, ⟨c.f0, c.f1 + 1⟩]
instance : DecidableEq Cell := fun a b => if h : a.f0 = b.f0 ∧ a.f1 = b.f1 then isTrue (by cases a; cases b; simp at h; rw [h.1, h.2]) else isFalse (fun e => h (by rw [e]; exact ⟨rfl, rfl⟩))
def nbStep (l : List Cell) (out : List Cell) (d : Cell) : List Cell := if d ∈ l then out else if d ∈ out then out else ins d out
def nbC (l : List Cell) : List Cell := l.foldl (fun out c => (arC c).foldl (nbStep l) out) []
theorem ar_eq (c : Cell) (h : (-1000000 ≤ c.f0 ∧ c.f0 ≤ 1000000) ∧ -1000000 ≤ c.f1 ∧ c.f1 ≤ 1000000) : spec_l02Around.f c.f0 c.f1 = some (arC c) := by
  unfold spec_l02Around.f arC
  rw [w64 (by omega) (by omega), w64 (by omega) (by omega), w64 (by omega) (by omega), w64 (by omega) (by omega)]
theorem nbStep_len (l out : List Cell) (d : Cell) : out.length ≤ (nbStep l out d).length ∧ (nbStep l out d).length ≤ out.length + 1 := by
  unfold nbStep
  split
  · omega
  · split
    · omega
    · rw [ins_len]; omega
theorem ixAt_lt (d : Cell) (l : List Cell) : ixAt (d.f0, d.f1) 0 l < 0 ↔ d ∉ l := by
  have h := ixAt_mem (d.f0, d.f1) l 0
  have e : cc (d.f0, d.f1) = d := rfl
  rw [e] at h
  rw [← h]
  omega
theorem nb_loop (l : List Cell) (hl : l.length ≤ 100000) (hi : In 1000000 l) : ∀ (i : Nat) (out : List Cell), i ≤ l.length → out.length ≤ 4 * i → Evt (fun k => spec_l02Neighbours.l0 k l out (i : Int)) ((l.drop i).foldl (fun out c => (arC c).foldl (nbStep l) out) out) := by
  refine Evt.upS (g := fun k i out => spec_l02Neighbours.l0 k l out (i : Int)) (R := fun i out => (l.drop i).foldl (fun out c => (arC c).foldl (nbStep l) out) out) (P := fun i out => out.length ≤ 4 * i) ?_ ?_
  · intro out _
    refine Evt.step (fun k => rfl) ?_
    simp only [spec_l02Neighbours.l0]
    refine Evt.ite_neg (by omega) ?_
    rw [List.drop_length]
    exact Evt.pure
  · intro i out hi2 hp ih
    have hb := In.at hi i hi2
    refine Evt.step (fun k => rfl) ?_
    simp only [spec_l02Neighbours.l0, rd_getD, ar_eq _ hb, Option.bind_some]
    refine Evt.ite_pos (by omega) (Evt.ite_pos (by omega) ?_)
    rw [drop_getD l i z42 hi2, List.foldl_cons]
    have ha : (arC (l.getD i z42)).length = 4 := rfl
    generalize arC (l.getD i z42) = a at ha ⊢
    have h := Evt.upS (g := fun k j (o : List Cell) => spec_l02Neighbours.l1 k l o (i : Int) a (j : Int)) (R := fun j o => (l.drop (i + 1)).foldl (fun out c => (arC c).foldl (nbStep l) out) ((a.drop j).foldl (nbStep l) o)) (P := fun j o => o.length ≤ 4 * i + j) (n := 4) ?_ ?_ 0 out (Nat.zero_le _) hp
    · exact h
    · intro o ho
      refine Evt.step (fun k => rfl) ?_
      simp only [spec_l02Neighbours.l1]
      refine Evt.ite_neg (by omega) ?_
      rw [wrap_succ hi2 (by omega), List.drop_of_length_le (by omega : a.length ≤ 4)]
      exact ih o (by omega)
    · intro j o hj ho ihj
      refine Evt.step (fun k => rfl) ?_
      simp only [spec_l02Neighbours.l1, rd_getD]
      refine Evt.ite_pos (by omega) (Evt.ite_pos (by omega) (Evt.ite_pos (by omega) ?_))
      rw [drop_getD a j z42 (by omega), List.foldl_cons]
      have hs := nbStep_len l o (a.getD j z42)
      have ihj' := ihj (nbStep l o (a.getD j z42)) (by omega)
      have ew : wrap64 ((j : Int) + 1) = ((j + 1 : Nat) : Int) := by rw [w64 (by omega) (by omega)]; omega
      rw [ew]
      refine (l02Index_eq l _ _ (by omega)).bind ?_
      unfold nbStep at ihj' ⊢
      by_cases h1 : a.getD j z42 ∈ l
      · rw [if_pos h1] at ihj' ⊢
        exact Evt.ite_neg (by rw [ixAt_lt]; exact fun h => h h1) ihj'
      · rw [if_neg h1] at ihj' ⊢
        refine Evt.ite_pos ((ixAt_lt _ _).2 h1) ?_
        refine (l02Index_eq o _ _ (by omega)).bind ?_
        by_cases h2 : a.getD j z42 ∈ o
        · rw [if_pos h2] at ihj' ⊢
          exact Evt.ite_neg (by rw [ixAt_lt]; exact fun h => h h2) ihj'
        · rw [if_neg h2] at ihj' ⊢
          refine Evt.ite_pos ((ixAt_lt _ _).2 h2) ?_
          exact (l02Insert_eq o (a.getD j z42) (by omega)).bind ihj'
theorem l02Neighbours_eq (l : List Cell) (hl : l.length ≤ 100000) (hi : In 1000000 l) : Evt (fun k => spec_l02Neighbours.f k l) (nbC l) := by
  unfold spec_l02Neighbours.f
  exact nb_loop l hl hi 0 [] (Nat.zero_le _) (by simp)
end Go.Proofs.YtcgnnfaemjjljaaDoor.Pure
end
section
namespace Go.Proofs.YtcgnnfaemjjljaaDoor.Pure
open Go.RowKit Go.Proofs.YtcgnnfaemjjljaaDoor Go.Proofs.YtcgnnfaemjjljaaDoor.Q Go.Proofs.YtcgnnfaemjjljaaDoorW.PrintWords
set_option linter.unusedVariables false
set_option linter.unusedSimpArgs false
def Bytes (l : List Int) : Prop := l.length ≤ 4096 ∧ ∀ x ∈ l, 0 ≤ x ∧ x ≤ 255
theorem Bytes.at_ {l : List Int} (h : Bytes l) (i : Int) : 0 ≤ rd l i ∧ rd l i ≤ 255 := by
  unfold rd
  rw [List.getD_eq_getElem?_getD]
  by_cases hi : i.toNat < l.length
  · rw [List.getElem?_eq_getElem hi]
    exact h.2 _ (List.getElem_mem hi)
  · rw [List.getElem?_eq_none (by omega)]
    simp
structure Src (l : List Int) (a s : Int) : Prop where
  a0 : 0 ≤ a
  a1 : a ≤ l.length
  s0 : 0 ≤ s
  s1 : s ≤ 2147483646
theorem bytes_of {l : List Int} (h : ∀ x ∈ l, (Lit.int .u8 x).wf = true) (hl : l.length ≤ 4096) : Bytes l := ⟨hl, fun x hx => by
  have h1 : (decide ((0 : Int) ≤ x) && decide (x ≤ (255 : Int))) = true := h x hx
  simpa using h1⟩
theorem seed_in {x : Int} (h0 : 0 ≤ x) (h1 : x ≤ 9223372036854775807) : 0 ≤ Int.tmod x 2147483647 ∧ Int.tmod x 2147483647 ≤ 2147483646 := by
  rw [Int.tmod_eq_emod_of_nonneg h0]
  omega
theorem next_any {l : List Int} {a s : Int} (hb : Bytes l) (h : Src l a s) (n : Int) :
    ∃ r a' s', spec_l01Next.f l a s n = some (r, a', s') ∧ Src l a' s' ∧ 0 ≤ r ∧ (1 ≤ n → r < n) ∧ (n ≤ 1 → r = 0) := by
  obtain ⟨a0, a1, s0, s1⟩ := h
  have hl := hb.1
  unfold spec_l01Next.f
  by_cases h1 : n ≤ 1
  · rw [if_pos h1]
    exact ⟨0, a, s, rfl, ⟨a0, a1, s0, s1⟩, Int.le_refl _, fun _ => by omega, fun _ => rfl⟩
  · rw [if_neg h1]
    have hsd := seed_in (x := wrap64 (wrap64 (s * 48271) + 29)) (by rw [w64 (n := s * 48271) (by omega) (by omega), w64 (by omega) (by omega)]; omega) (by rw [w64 (n := s * 48271) (by omega) (by omega), w64 (by omega) (by omega)]; omega)
    generalize Int.tmod (wrap64 (wrap64 (s * 48271) + 29)) 2147483647 = s' at hsd ⊢
    have hx : wrap64 (Int.tdiv s' 31) = s' / 31 := by rw [Int.tdiv_eq_ediv_of_nonneg hsd.1, w64 (by omega) (by omega)]
    have tm : ∀ x : Int, 0 ≤ x → 0 ≤ Int.tmod x n ∧ Int.tmod x n < n := fun x hx => by
      rw [Int.tmod_eq_emod_of_nonneg hx]
      exact ⟨Int.emod_nonneg _ (by omega), Int.emod_lt_of_pos _ (by omega)⟩
    by_cases h2 : a < (l.length : Int)
    · rw [if_pos h2, if_pos a0]
      have hr := hb.at_ a
      have hw : wrap64 (rd l a) = rd l a := w64 (by omega) (by omega)
      by_cases h3 : n ≤ 256 ∧ (a + 1) % 2 = 0
      · rw [if_pos h3, hw]
        have := tm _ hr.1
        exact ⟨_, _, _, rfl, ⟨by omega, by omega, hsd.1, hsd.2⟩, this.1, fun _ => this.2, fun h => absurd h h1⟩
      · rw [if_neg h3, hw, hx, w64 (by omega) (by omega)]
        have := tm (s' / 31 + rd l a) (by omega)
        exact ⟨_, _, _, rfl, ⟨by omega, by omega, hsd.1, hsd.2⟩, this.1, fun _ => this.2, fun h => absurd h h1⟩
    · rw [if_neg h2, hx]
      have := tm (s' / 31) (by omega)
      exact ⟨_, _, _, rfl, ⟨a0, a1, hsd.1, hsd.2⟩, this.1, fun _ => this.2, fun h => absurd h h1⟩
theorem next_ok {l : List Int} {a s : Int} (hb : Bytes l) (h : Src l a s) (n : Int) (_hn : n ≤ 9223372036854775807) :
    ∃ r a' s', spec_l01Next.f l a s n = some (r, a', s') ∧ Src l a' s' ∧ 0 ≤ r ∧ (1 ≤ n → r < n) ∧ (n ≤ 1 → r = 0) := next_any hb h n
theorem from_s (l : List Int) (hb : ∀ x ∈ l, 0 ≤ x ∧ x ≤ 255) : ∀ s : Int, (0 ≤ s ∧ s ≤ 2147483646) → 0 ≤ spec_l01From.s l s ∧ spec_l01From.s l s ≤ 2147483646 := by
  induction l with
  | nil => intro s hs; exact hs
  | cons c r ih =>
    intro s hs
    have hc := hb c List.mem_cons_self
    unfold spec_l01From.s at ih ⊢
    rw [List.foldl_cons]
    refine ih (fun x hx => hb x (List.mem_cons_of_mem _ hx)) _ ?_
    refine seed_in ?_ ?_
    · rw [w64 (n := s * 47) (by omega) (by omega), w64 (n := c) (by omega) (by omega), w64 (by omega) (by omega)]; omega
    · rw [w64 (n := s * 47) (by omega) (by omega), w64 (n := c) (by omega) (by omega), w64 (by omega) (by omega)]; omega
theorem from_ok {l : List Int} (hb : Bytes l) : ∃ s, spec_l01From.f l = some (l, 0, s) ∧ Src l 0 s := by
  have h := from_s (l.take 64) (fun x hx => hb.2 x (List.mem_of_mem_take hx)) 61003 (by omega)
  exact ⟨_, rfl, ⟨Int.le_refl _, by omega, h.1, h.2⟩⟩
end Go.Proofs.YtcgnnfaemjjljaaDoor.Pure
end
section
namespace Go.Proofs.YtcgnnfaemjjljaaDoor.Pure
open Go.RowKit Go.Proofs.YtcgnnfaemjjljaaDoor Go.Proofs.YtcgnnfaemjjljaaDoor.Q Go.Proofs.YtcgnnfaemjjljaaDoorW.PrintWords
set_option linter.unusedVariables false
set_option linter.unusedSimpArgs false
theorem nbStep_mem {l out : List Cell} {d x : Cell} : x ∈ nbStep l out d ↔ x ∈ out ∨ (x = d ∧ d ∉ l) := by
  unfold nbStep
  by_cases h1 : d ∈ l
  · rw [if_pos h1]
    constructor
    · exact Or.inl
    · rintro (h | h)
      · exact h
      · exact absurd h1 h.2
  · rw [if_neg h1]
    by_cases h2 : d ∈ out
    · rw [if_pos h2]
      constructor
      · exact Or.inl
      · rintro (h | h)
        · exact h
        · rw [h.1]; exact h2
    · rw [if_neg h2, ins_mem]
      constructor
      · rintro (h | h)
        · exact Or.inr ⟨h, h1⟩
        · exact Or.inl h
      · rintro (h | h)
        · exact Or.inr h
        · exact Or.inl h.1
theorem nbFold_mem {l : List Cell} {x : Cell} : ∀ (a out : List Cell), x ∈ a.foldl (nbStep l) out ↔ x ∈ out ∨ (x ∈ a ∧ x ∉ l)
  | [], out => by simp
  | d :: r, out => by
    rw [List.foldl_cons, nbFold_mem r, nbStep_mem, List.mem_cons]
    constructor
    · rintro ((h | ⟨h, h2⟩) | ⟨h, h2⟩)
      · exact Or.inl h
      · exact Or.inr ⟨Or.inl h, by rw [h]; exact h2⟩
      · exact Or.inr ⟨Or.inr h, h2⟩
    · rintro (h | ⟨h | h, h2⟩)
      · exact Or.inl (Or.inl h)
      · exact Or.inl (Or.inr ⟨h, by rw [← h]; exact h2⟩)
      · exact Or.inr ⟨h, h2⟩
theorem nbAll_mem {l : List Cell} {x : Cell} : ∀ (a out : List Cell), x ∈ a.foldl (fun out c => (arC c).foldl (nbStep l) out) out ↔ x ∈ out ∨ (x ∉ l ∧ ∃ c ∈ a, x ∈ arC c)
  | [], out => by simp
  | d :: r, out => by
    rw [List.foldl_cons, nbAll_mem r, nbFold_mem]
    simp only [List.mem_cons]
    constructor
    · rintro ((h | ⟨h, h2⟩) | ⟨h, c, hc, h2⟩)
      · exact Or.inl h
      · exact Or.inr ⟨h2, d, Or.inl rfl, h⟩
      · exact Or.inr ⟨h, c, Or.inr hc, h2⟩
    · rintro (h | ⟨h, c, hc | hc, h2⟩)
      · exact Or.inl (Or.inl h)
      · exact Or.inl (Or.inr ⟨by rw [← hc]; exact h2, h⟩)
      · exact Or.inr ⟨h, c, hc, h2⟩
theorem nbC_mem {l : List Cell} {x : Cell} : x ∈ nbC l ↔ x ∉ l ∧ ∃ c ∈ l, x ∈ arC c := by
  unfold nbC
  rw [nbAll_mem]
  simp
theorem min_cell : ∀ l : List Cell, l ≠ [] → ∃ c ∈ l, ∀ d ∈ l, c.f1 ≤ d.f1
  | [], h => absurd rfl h
  | [c], _ => ⟨c, List.mem_cons_self, fun d hd => by rw [List.mem_singleton.1 hd]; exact Int.le_refl _⟩
  | c :: e :: r, _ => by
    obtain ⟨m, hm, h⟩ := min_cell (e :: r) (by simp)
    by_cases hc : c.f1 ≤ m.f1
    · refine ⟨c, List.mem_cons_self, fun d hd => ?_⟩
      rcases List.mem_cons.1 hd with rfl | hd
      · exact Int.le_refl _
      · exact Int.le_trans hc (h d hd)
    · refine ⟨m, List.mem_cons_of_mem _ hm, fun d hd => ?_⟩
      rcases List.mem_cons.1 hd with rfl | hd
      · omega
      · exact h d hd
theorem nbC_ne {l : List Cell} (h : l ≠ []) : nbC l ≠ [] := by
  obtain ⟨c, hc, hm⟩ := min_cell l h
  have : (⟨c.f0, c.f1 - 1⟩ : Cell) ∈ nbC l := nbC_mem.2 ⟨fun hin => by have := hm _ hin; simp only at this; omega, c, hc, by simp [arC]⟩
  intro e
  rw [e] at this
  cases this
theorem nbC_in {l : List Cell} {b : Int} (h : In b l) : In (b + 1) (nbC l) := by
  intro x hx
  obtain ⟨_, c, hc, hx⟩ := nbC_mem.1 hx
  have hb := h c hc
  simp only [arC, List.mem_cons, List.not_mem_nil, or_false] at hx
  rcases hx with rfl | rfl | rfl | rfl <;> simp only <;> omega
theorem nbFold_len (l : List Cell) : ∀ a out : List Cell, (a.foldl (nbStep l) out).length ≤ out.length + a.length
  | [], out => by simp
  | d :: r, out => by
    have h1 := nbFold_len l r (nbStep l out d)
    have h2 := (nbStep_len l out d).2
    rw [List.foldl_cons, List.length_cons]
    omega
theorem nbAll_len (l : List Cell) : ∀ a out : List Cell, (a.foldl (fun out c => (arC c).foldl (nbStep l) out) out).length ≤ out.length + 4 * a.length
  | [], out => by simp
  | d :: r, out => by
    have h1 := nbAll_len l r ((arC d).foldl (nbStep l) out)
    have h2 := nbFold_len l (arC d) out
    have h3 : (arC d).length = 4 := rfl
    rw [List.foldl_cons, List.length_cons]
    omega
theorem nbC_len (l : List Cell) : (nbC l).length ≤ 4 * l.length := by
  have := nbAll_len l l []
  simp at this
  exact this
theorem In.mono {l : List Cell} {a b : Int} (h : In a l) (hab : a ≤ b) : In b l := fun c hc => by have := h c hc; omega
theorem In.ins {l : List Cell} {b : Int} {c : Cell} (h : In b l) (hc : (-b ≤ c.f0 ∧ c.f0 ≤ b) ∧ -b ≤ c.f1 ∧ c.f1 ≤ b) : In b (ins c l) := by
  intro d hd
  rcases ins_mem.1 hd with rfl | hd
  · exact hc
  · exact h d hd
theorem In.mov {l : List Cell} {a b x y : Int} (h : In a l) (hx : -b ≤ x ∧ x ≤ b) (hy : -b ≤ y ∧ y ≤ b) : In (a + b) (movC l x y) := by
  intro d hd
  obtain ⟨c, hc, rfl⟩ := List.mem_map.1 hd
  have := h c hc
  simp only
  omega
theorem normC_len (l : List Cell) : (normC l).length = l.length := movC_len _ _ _
theorem normC_in {l : List Cell} {b : Int} (h0 : l ≠ []) (h : In b l) : In (2 * b) (normC l) := by
  have hb := leastC_in h0 h
  have := In.mov (b := b) h (x := -(leastC l).1) (y := -(leastC l).2) (by omega) (by omega)
  exact this.mono (by omega)
theorem poly_loop {l : List Int} (hb : Bytes l) : ∀ (n : Nat) (a s : Int) (out : List Cell), Src l a s → out ≠ [] → out.length + n ≤ 100 → In (out.length : Int) out →
    ∃ r a' s', Evt (fun k => spec_l02DrawPoly.l0 k out (n : Int) l a s) (r, a', s') ∧ Src l a' s' ∧ r ≠ [] ∧ r.length = out.length + n ∧ In (2 * ((out.length : Int) + n)) r := by
  intro n
  induction n with
  | zero =>
    intro a s out hs h0 hl hi
    refine ⟨normC out, a, s, ?_, hs, ?_, by rw [normC_len]; rfl, (normC_in h0 hi).mono (by omega)⟩
    · refine Evt.step (fun k => rfl) ?_
      simp only [spec_l02DrawPoly.l0]
      refine Evt.ite_neg (by omega) ?_
      exact (l02Normal_eq out h0 (by omega) (hi.mono (by omega))).bind Evt.pure
    · intro e
      have := congrArg List.length e
      rw [normC_len] at this
      exact h0 (List.eq_nil_of_length_eq_zero this)
  | succ n ih =>
    intro a s out hs h0 hl hi
    have hne := nbC_ne h0
    have hnl := nbC_len out
    have hpos : 0 < (nbC out).length := List.length_pos_iff.2 hne
    obtain ⟨x, a1, s1, hx, hs1, x0, x1, _⟩ := next_ok hb hs ((nbC out).length : Int) (by omega)
    have x2 := x1 (by omega)
    obtain ⟨j, rfl⟩ : ∃ j : Nat, x = (j : Int) := ⟨x.toNat, by omega⟩
    have hj : j < (nbC out).length := by omega
    have hd := In.at (nbC_in hi) j hj
    obtain ⟨r, a2, s2, hr, hs2, hr0, hrl, hri⟩ := ih a1 s1 (ins ((nbC out).getD j z42) out) hs1 (by intro e; have := congrArg List.length e; rw [ins_len] at this; simp at this) (by rw [ins_len]; omega)
      (by rw [ins_len]; exact In.ins (hi.mono (by omega)) (by omega))
    rw [ins_len] at hrl hri
    refine ⟨r, a2, s2, ?_, hs2, hr0, by omega, hri.mono (by omega)⟩
    refine Evt.step (fun k => rfl) ?_
    simp only [spec_l02DrawPoly.l0]
    refine Evt.ite_pos (by omega) ?_
    refine (l02Neighbours_eq out (by omega) (hi.mono (by omega))).bind ?_
    simp only [hx, Option.bind_some, rd_getD]
    refine Evt.ite_pos (by omega) (Evt.ite_pos (by omega) ?_)
    refine (l02Insert_eq out ((nbC out).getD j z42) (by omega)).bind ?_
    have ew : wrap64 (((n + 1 : Nat) : Int) - 1) = (n : Int) := by rw [w64 (by omega) (by omega)]; omega
    rw [ew]
    exact hr
theorem poly_ok {l : List Int} (hb : Bytes l) {a s : Int} (hs : Src l a s) (m : Nat) (hm : 1 ≤ m) (hm2 : m ≤ 90) :
    ∃ r a' s', Evt (fun k => spec_l02DrawPoly.f k l a s (m : Int)) (r, a', s') ∧ Src l a' s' ∧ r ≠ [] ∧ r.length ≤ m ∧ In (2 * (m : Int)) r := by
  obtain ⟨x, a1, s1, hx, hs1, x0, x1, _⟩ := next_ok hb hs (m : Int) (by omega)
  have x2 := x1 (by omega)
  obtain ⟨j, rfl⟩ : ∃ j : Nat, x = (j : Int) := ⟨x.toNat, by omega⟩
  obtain ⟨r, a2, s2, hr, hs2, hr0, hrl, hri⟩ := poly_loop hb j a1 s1 [(⟨0, 0⟩ : Cell)] hs1 (by simp) (by simp; omega) (by intro c hc; rw [List.mem_singleton.1 hc]; simp)
  simp at hrl hri
  refine ⟨r, a2, s2, ?_, hs2, hr0, by omega, hri.mono (by omega)⟩
  unfold spec_l02DrawPoly.f
  simp only [hx, Option.bind_some]
  exact hr
end Go.Proofs.YtcgnnfaemjjljaaDoor.Pure
end
section
namespace Go.Proofs.YtcgnnfaemjjljaaDoor.Pure
open Go.RowKit Go.Proofs.YtcgnnfaemjjljaaDoor Go.Proofs.YtcgnnfaemjjljaaDoor.Q Go.Proofs.YtcgnnfaemjjljaaDoorW.PrintWords
set_option linter.unusedVariables false
set_option linter.unusedSimpArgs false
def Ev {α : Type} (g : Nat → Option α) (Q : α → Prop) : Prop := ∃ r, Evt g r ∧ Q r
theorem Ev.pure {α : Type} {Q : α → Prop} {r : α} (h : Q r) : Ev (fun _ => some r) Q := ⟨r, Evt.pure, h⟩
theorem Ev.const {α : Type} {Q : α → Prop} {o : Option α} {r : α} (e : o = some r) (h : Q r) : Ev (fun _ => o) Q := ⟨r, Evt.const e, h⟩
theorem Ev.of {α : Type} {g : Nat → Option α} {Q : α → Prop} {r : α} (e : Evt g r) (h : Q r) : Ev g Q := ⟨r, e, h⟩
theorem Ev.mono {α : Type} {g : Nat → Option α} {Q Q' : α → Prop} (h : Ev g Q) (hq : ∀ r, Q r → Q' r) : Ev g Q' := by
  obtain ⟨r, a, b⟩ := h
  exact ⟨r, a, hq r b⟩
theorem Ev.step {α : Type} {g h : Nat → Option α} {Q : α → Prop} (e : ∀ k, g (k + 1) = h k) (hh : Ev h Q) : Ev g Q := by
  obtain ⟨r, a, b⟩ := hh
  exact ⟨r, a.step e, b⟩
theorem Ev.pos {α : Type} {c : Prop} [Decidable c] {g h : Nat → Option α} {Q : α → Prop} (hc : c) (hg : Ev g Q) : Ev (fun k => if c then g k else h k) Q := by
  obtain ⟨r, a, b⟩ := hg
  exact ⟨r, a.of_eq (fun _ => if_pos hc), b⟩
theorem Ev.neg {α : Type} {c : Prop} [Decidable c] {g h : Nat → Option α} {Q : α → Prop} (hc : ¬ c) (hg : Ev h Q) : Ev (fun k => if c then g k else h k) Q := by
  obtain ⟨r, a, b⟩ := hg
  exact ⟨r, a.of_eq (fun _ => if_neg hc), b⟩
theorem Ev.bind {α β : Type} {g : Nat → Option α} {f : Nat → α → Option β} {P : α → Prop} {Q : β → Prop} (h : Ev g P) (h2 : ∀ a, P a → Ev (fun k => f k a) Q) : Ev (fun k => (g k).bind (f k)) Q := by
  obtain ⟨a, e, p⟩ := h
  obtain ⟨r, e2, q⟩ := h2 a p
  exact ⟨r, e.bind e2, q⟩
theorem Ev.bindE {α β : Type} {g : Nat → Option α} {f : Nat → α → Option β} {a : α} {Q : β → Prop} (h : Evt g a) (h2 : Ev (fun k => f k a) Q) : Ev (fun k => (g k).bind (f k)) Q := by
  obtain ⟨r, e2, q⟩ := h2
  exact ⟨r, h.bind e2, q⟩
theorem Ev.up {α : Type} {g : Nat → Nat → Option α} {Q : α → Prop} {n : Nat} (hend : Ev (fun k => g k n) Q) (hstep : ∀ i, i < n → Ev (fun k => g k (i + 1)) Q → Ev (fun k => g k i) Q) : ∀ i, i ≤ n → Ev (fun k => g k i) Q := by
  intro i hi
  obtain ⟨d, hd⟩ : ∃ d, n = i + d := ⟨n - i, by omega⟩
  induction d generalizing i with
  | zero => have e : i = n := by omega
            rw [e]; exact hend
  | succ d ih => exact hstep i (by omega) (ih (i + 1) (by omega) (by omega))
theorem Ev.upS {α σ : Type} {g : Nat → Nat → σ → Option α} {Q : α → Prop} {P : Nat → σ → Prop} {n : Nat} (hend : ∀ s, P n s → Ev (fun k => g k n s) Q)
    (hstep : ∀ i s, i < n → P i s → (∀ s', P (i + 1) s' → Ev (fun k => g k (i + 1) s') Q) → Ev (fun k => g k i s) Q) : ∀ i s, i ≤ n → P i s → Ev (fun k => g k i s) Q := by
  intro i s hi hp
  obtain ⟨d, hd⟩ : ∃ d, n = i + d := ⟨n - i, by omega⟩
  induction d generalizing i s with
  | zero => have e : i = n := by omega
            rw [e] at hp ⊢; exact hend s hp
  | succ d ih => exact hstep i s (by omega) hp (fun s' hp' => ih (i + 1) s' (by omega) hp' (by omega))
theorem ixAt_top (p : Int × Int) : ∀ (l : List Cell) (i : Nat), ixAt p i l < (i : Int) + l.length ∨ ixAt p i l = -1
  | [], i => Or.inr rfl
  | c :: r, i => by
    unfold ixAt
    by_cases h : c.f0 = p.1 ∧ c.f1 = p.2
    · rw [if_pos h]
      exact Or.inl (by simp only [List.length_cons]; omega)
    · rw [if_neg h]
      rcases ixAt_top p r (i + 1) with h2 | h2
      · refine Or.inl ?_
        simp only [List.length_cons]
        omega
      · exact Or.inr h2
theorem getD_mem0 {α : Type} (l : List α) (i : Nat) (z : α) (h : i < l.length) : l.getD i z ∈ l := by
  simp [List.getD_eq_getElem?_getD, List.getElem?_eq_getElem h]
theorem rdI (l : List Int) (i : Nat) : rd l (i : Int) = l.getD i 0 := by simp [rd]
def negs : List Int → Nat
  | [] => 0
  | x :: r => (if x < 0 then 1 else 0) + negs r
theorem negs_le : ∀ l : List Int, negs l ≤ l.length
  | [] => Nat.le_refl _
  | x :: r => by
    have := negs_le r
    unfold negs
    simp only [List.length_cons]
    split <;> omega
theorem negs_set : ∀ (l : List Int) (i : Nat) (a : Int), i < l.length → l.getD i 0 < 0 → 0 ≤ a → negs (l.set i a) + 1 = negs l
  | [], i, a, h, _, _ => by simp at h
  | x :: r, 0, a, _, h, h0 => by
    simp only [List.getD_cons_zero] at h
    simp only [List.set_cons_zero, negs]
    rw [if_pos h, if_neg (by omega)]
    omega
  | x :: r, i + 1, a, hl, h, h0 => by
    simp only [List.getD_cons_succ] at h
    simp only [List.set_cons_succ, negs]
    have := negs_set r i a (by simpa using hl) h h0
    omega
def Opens (n : Nat) (l : List Int) : Prop := ∀ e ∈ l, 0 ≤ e ∧ e < (n : Int)
section
variable {l : List Cell} (hl : l.length ≤ 100000) (hi : In 1000000 l) {Q : List Int → Prop}
include hl
theorem parts_l3 {x5 : Int} (h5 : 0 ≤ x5) {M : Nat} (hM : M ≤ 1000000) (c7 : List Cell) (h7 : c7.length = 4)
    (cont : ∀ x3 x6, x3.length = l.length → Opens l.length x6 → negs x3 + x6.length ≤ M → Ev (fun k => spec_l02Parts.l2 k l x3 x5 x6) Q) :
    ∀ (x3 x6 : List Int), x3.length = l.length → Opens l.length x6 → negs x3 + x6.length ≤ M → Ev (fun k => spec_l02Parts.l3 k l x3 x5 x6 c7 0) Q := by
  intro x3 x6 a b c
  refine Ev.upS (g := fun k i (s : List Int × List Int) => spec_l02Parts.l3 k l s.1 x5 s.2 c7 (i : Int)) (P := fun _ s => s.1.length = l.length ∧ Opens l.length s.2 ∧ negs s.1 + s.2.length ≤ M) (n := 4) ?_ ?_ 0 (x3, x6) (by omega) ⟨a, b, c⟩
  · rintro ⟨x3, x6⟩ ⟨a, b, c⟩
    refine Ev.step (fun k => rfl) ?_
    simp only [spec_l02Parts.l3]
    exact Ev.neg (by omega) (cont x3 x6 a b c)
  · rintro i ⟨x3, x6⟩ hi4 ⟨a, b, c⟩ ih
    replace a : x3.length = l.length := a
    replace b : Opens l.length x6 := b
    replace c : negs x3 + x6.length ≤ M := c
    refine Ev.step (fun k => rfl) ?_
    simp only [spec_l02Parts.l3]
    refine Ev.pos (by omega) (Ev.pos (by omega) (Ev.pos (by omega) ?_))
    refine Ev.bindE (l02Index_eq l _ _ (by omega)) ?_
    have htop := ixAt_top ((rd_T42 c7 (i : Int)).f0, (rd_T42 c7 (i : Int)).f1) l 0
    generalize ixAt ((rd_T42 c7 (i : Int)).f0, (rd_T42 c7 (i : Int)).f1) 0 l = t at htop ⊢
    rw [wrap_succ hi4 (by omega)]
    by_cases ht : t ≥ 0
    · obtain ⟨j, rfl⟩ : ∃ j : Nat, t = (j : Int) := ⟨t.toNat, by omega⟩
      have hj : j < l.length := by omega
      refine Ev.pos ht (Ev.pos (by omega) (Ev.pos (by omega) ?_))
      rw [rdI, Int.toNat_natCast]
      by_cases hn : x3.getD j 0 < 0
      · have hs := negs_set x3 j x5 (by omega) hn h5
        refine Ev.pos hn (Ev.pos (by omega) (ih (_, _) ⟨by simpa using a, ?_, ?_⟩))
        · intro e he
          rcases List.mem_append.1 he with he | he
          · exact b e he
          · rw [List.mem_singleton.1 he]; omega
        · simp only [List.length_append, List.length_singleton]
          omega
      · exact Ev.neg hn (ih (x3, x6) ⟨a, b, c⟩)
    · exact Ev.neg ht (ih (x3, x6) ⟨a, b, c⟩)
include hi
theorem parts_l2 {x5 : Int} (h5 : 0 ≤ x5) (cont : ∀ x3, x3.length = l.length → Ev (fun k => spec_l02Parts.l1 k l x3 (wrap64 (x5 + 1))) Q) :
    ∀ (M : Nat) (x3 x6 : List Int), M ≤ 1000000 → x3.length = l.length → Opens l.length x6 → negs x3 + x6.length ≤ M → Ev (fun k => spec_l02Parts.l2 k l x3 x5 x6) Q := by
  intro M
  induction M with
  | zero =>
    intro x3 x6 _ a b c
    refine Ev.step (fun k => rfl) ?_
    simp only [spec_l02Parts.l2]
    exact Ev.neg (by omega) (cont x3 a)
  | succ M ih =>
    intro x3 x6 hM a b c
    refine Ev.step (fun k => rfl) ?_
    simp only [spec_l02Parts.l2]
    cases x6 with
    | nil => exact Ev.neg (by simp) (cont x3 a)
    | cons e r =>
      have he := b e List.mem_cons_self
      obtain ⟨j, rfl⟩ : ∃ j : Nat, e = (j : Int) := ⟨e.toNat, by omega⟩
      have e0 : rd ((j : Int) :: r) 0 = (j : Int) := by simp [rd]
      have hc := hi.at j (by omega)
      rw [e0, rd_getD, ar_eq _ ⟨by omega, by omega⟩]
      simp only [Option.bind_some]
      simp only [List.length_cons] at c ⊢
      refine Ev.pos (by omega) (Ev.pos (by omega) (Ev.pos he.1 (Ev.pos (by omega) (Ev.pos (by omega) ?_))))
      have ed : (((j : Int) :: r).drop (1 : Int).toNat) = r := rfl
      rw [ed]
      exact parts_l3 hl h5 (M := M) (by omega) _ rfl (fun y3 y6 a' b' c' => ih y3 y6 (by omega) a' b' c') x3 r a (fun e he => b e (List.mem_cons_of_mem _ he)) (by omega)
theorem parts_l1 : ∀ (d i : Nat) (x3 : List Int), i + d = l.length → x3.length = l.length → Ev (fun k => spec_l02Parts.l1 k l x3 (i : Int)) (fun r => r.length = l.length) := by
  intro d
  induction d with
  | zero =>
    intro i x3 hd a
    refine Ev.step (fun k => rfl) ?_
    simp only [spec_l02Parts.l1]
    exact Ev.neg (by omega) (Ev.pure a)
  | succ d ih =>
    intro i x3 hd a
    refine Ev.step (fun k => rfl) ?_
    have hw : wrap64 ((i : Int) + 1) = ((i + 1 : Nat) : Int) := wrap_succ (n := l.length) (by omega) (by omega)
    simp only [spec_l02Parts.l1]
    refine Ev.pos (by omega) (Ev.pos (by omega) (Ev.pos (by omega) ?_))
    rw [rdI, Int.toNat_natCast]
    by_cases h : x3.getD i 0 ≥ 0
    · rw [hw]
      exact Ev.pos h (ih (i + 1) x3 (by omega) a)
    · refine Ev.neg h ?_
      have hn := negs_le (x3.set i (i : Int))
      simp only [List.length_set] at hn
      refine parts_l2 hl hi (by omega) (fun y3 a' => ?_) (l.length + 1) _ _ (by omega) (by simpa using a) ?_ (by simp; omega)
      · rw [hw]
        exact ih (i + 1) y3 (by omega) a'
      · intro e he
        rw [List.mem_singleton.1 he]
        omega
theorem parts_ends : Ev (fun k => spec_l02Parts.f k l) (fun r => r.length = l.length) := by
  unfold spec_l02Parts.f
  refine Ev.upS (g := fun k i s => spec_l02Parts.l0 k l s (i : Int)) (P := fun i s => s.length = i) (n := l.length) ?_ ?_ 0 _ (Nat.zero_le _) rfl
  · intro s hs
    refine Ev.step (fun k => rfl) ?_
    simp only [spec_l02Parts.l0]
    exact Ev.neg (by omega) (parts_l1 hl hi l.length 0 s (by omega) hs)
  · intro i s hin hs ih
    refine Ev.step (fun k => rfl) ?_
    simp only [spec_l02Parts.l0]
    rw [wrap_succ hin (by omega)]
    exact Ev.pos (by omega) (Ev.pos (by omega) (ih _ (by simp; omega)))
end
theorem one_ends (l : List Int) (hl : l.length ≤ 1000000) : Ev (fun k => spec_l02One.f k l) (fun _ => True) := by
  unfold spec_l02One.f
  refine Ev.up (g := fun k i => spec_l02One.l0 k l (i : Int)) (n := l.length) ?_ ?_ 0 (Nat.zero_le _)
  · refine Ev.step (fun k => rfl) ?_
    simp only [spec_l02One.l0]
    exact Ev.neg (by omega) (Ev.pure trivial)
  · intro i hi ih
    refine Ev.step (fun k => rfl) ?_
    simp only [spec_l02One.l0]
    rw [wrap_succ hi (by omega)]
    refine Ev.pos (by omega) (Ev.pos (by omega) ?_)
    by_cases h : rd l (i : Int) = 0
    · exact Ev.pos h ih
    · exact Ev.neg h (Ev.pure trivial)
theorem In.mono' {l : List Cell} {a b : Int} (h : In a l) (hab : a ≤ b) : In b l := fun c hc => by have := h c hc; omega
theorem connected_ends (l : List Cell) (hl : l.length ≤ 1000) : Ev (fun k => spec_IsConnected.f k l) (fun r => r = true → Sh l = true) := by
  unfold spec_IsConnected.f
  refine Ev.bindE (spec_IsShape_eq l (by omega)) ?_
  cases h : Sh l
  · exact Ev.neg (by simp) (Ev.pure (by simp))
  · have hi : In 1000000 l := fun c hc => by have := Sh_co h c hc; omega
    refine Ev.pos rfl ((parts_ends (by omega) hi).bind fun p hp => (one_ends p (by omega)).bind fun b _ => Ev.pure fun _ => rfl)
theorem code_ends (l : List Cell) (h : Sh l = true) : Ev (fun k => spec_l03Code.f k l) (fun _ => True) := by
  have hn := Sh_len h
  unfold spec_l03Code.f
  refine Ev.bindE (spec_IsShape_eq l (by omega)) ?_
  rw [h]
  refine Ev.pos rfl (Ev.bindE (l02Normal_eq l (fun e => by rw [e] at hn; simp at hn) (by omega) (fun c hc => by have := Sh_co h c hc; omega)) ?_)
  refine Ev.bindE (spec_IsShape_eq _ (by unfold normC; rw [movC_len]; omega)) ?_
  cases Sh (normC l)
  · exact Ev.neg (by simp) (Ev.pure trivial)
  · exact Ev.pos rfl (Ev.pure trivial)
theorem touch_ends (l : List Cell) (hl : l.length ≤ 1000) : Ev (fun k => spec_l23Touch.f k l) (fun _ => True) := by
  unfold spec_l23Touch.f
  refine Ev.up (g := fun k i => spec_l23Touch.l0 k l (i : Int)) (n := l.length) ?_ ?_ 0 (Nat.zero_le _)
  · refine Ev.step (fun k => rfl) ?_
    simp only [spec_l23Touch.l0]
    exact Ev.neg (by omega) (Ev.pure trivial)
  · intro i hi ih
    have join : ∀ (a b c : Bool) (x y : Int), Ev (fun k => spec_l23Touch.j1 k l (i : Int) a b c x y) (fun _ => True) := by
      intro a b c x y
      refine Ev.step (fun k => rfl) ?_
      simp only [spec_l23Touch.j1]
      rw [wrap_succ hi (by omega)]
      cases c
      · refine Ev.neg (by simp) ?_
        cases a
        · refine Ev.neg (by simp) ?_
          cases b
          · refine Ev.neg (by simp) (Ev.bindE (l02Index_eq l _ _ (by omega)) ?_)
            by_cases h : ixAt (wrap64 (x - 1), wrap64 (y + 1)) 0 l ≥ 0
            · exact Ev.pos h (Ev.pure trivial)
            · exact Ev.neg h ih
          · exact Ev.pos rfl ih
        · exact Ev.pos rfl ih
      · exact Ev.pos rfl (Ev.pure trivial)
    refine Ev.step (fun k => rfl) ?_
    simp only [spec_l23Touch.l0]
    refine Ev.pos (by omega) (Ev.pos (by omega) ?_)
    refine Ev.bindE (l02Index_eq l _ _ (by omega)) (Ev.bindE (l02Index_eq l _ _ (by omega)) (Ev.bindE (l02Index_eq l _ _ (by omega)) ?_))
    generalize ixAt (wrap64 ((rd_T42 l (i : Int)).f0 + 1), (rd_T42 l (i : Int)).f1) 0 l = t1
    generalize ixAt (wrap64 ((rd_T42 l (i : Int)).f0 - 1), (rd_T42 l (i : Int)).f1) 0 l = t2
    generalize ixAt ((rd_T42 l (i : Int)).f0, wrap64 ((rd_T42 l (i : Int)).f1 + 1)) 0 l = t3
    by_cases h1 : t1 ≥ 0
    · exact Ev.pos h1 (join _ _ _ _ _)
    · refine Ev.neg h1 ?_
      by_cases h3 : t3 ≥ 0
      · exact Ev.pos h3 (join _ _ _ _ _)
      · exact Ev.neg h3 (Ev.bindE (l02Index_eq l _ _ (by omega)) (join _ _ _ _ _))
theorem mx_in {a b lo hi : Int} (h1 : lo ≤ a ∧ a ≤ hi) (h2 : lo ≤ b ∧ b ≤ hi) : lo ≤ mx a b ∧ mx a b ≤ hi := by
  unfold mx
  split <;> omega
theorem size_ends (l : List Cell) (h : Sh l = true) : Ev (fun k => spec_l04Size.f k l) (fun r => (0 ≤ r.1 ∧ r.1 ≤ 201) ∧ 0 ≤ r.2 ∧ r.2 ≤ 201) := by
  have hn := Sh_len h
  have h0 : l ≠ [] := fun e => by rw [e] at hn; simp at hn
  have hi : In 100 l := fun c hc => Sh_co h c hc
  unfold spec_l04Size.f
  refine Ev.bindE (l02Least_eq l h0 (by omega)) ?_
  have hL := leastC_in h0 hi
  refine Ev.upS (g := fun k i (s : Int × Int) => spec_l04Size.l0 k l (leastC l).1 (leastC l).2 s.1 s.2 (i : Int)) (P := fun _ s => (0 ≤ s.1 ∧ s.1 ≤ 201) ∧ 0 ≤ s.2 ∧ s.2 ≤ 201) (n := l.length) ?_ ?_ 0 (0, 0) (Nat.zero_le _) (by simp)
  · rintro ⟨x, y⟩ hp
    refine Ev.step (fun k => rfl) ?_
    simp only [spec_l04Size.l0]
    exact Ev.neg (by omega) (Ev.pure hp)
  · rintro i ⟨x, y⟩ hil hp ih
    have hc := hi.at i hil
    have hle := leastC_le (l := l) _ (getD_mem0 l i z42 hil)
    refine Ev.step (fun k => rfl) ?_
    simp only [spec_l04Size.l0, rd_getD]
    rw [wrap_succ hil (by omega)]
    generalize l.getD i z42 = c at hc hle ⊢
    rw [w64 (n := c.f0 - (leastC l).1) (by omega) (by omega), w64 (n := c.f1 - (leastC l).2) (by omega) (by omega), w64 (n := c.f0 - (leastC l).1 + 1) (by omega) (by omega), w64 (n := c.f1 - (leastC l).2 + 1) (by omega) (by omega)]
    exact Ev.pos (by omega) (Ev.pos (by omega) (ih (_, _) ⟨mx_in hp.1 (by omega), mx_in hp.2 (by omega)⟩))
theorem holes_tail (l : List Cell) (hl : l.length ≤ 100000) (p : List Int) (hp : p.length = l.length) : Ev (fun k => spec_l06Holes.l2 k l p [] 1) (fun _ => True) := by
  have key : ∀ (d i : Nat) (s : List (List Cell)), 1 ≤ i → i + d = l.length + 1 → s.length ≤ i → Ev (fun k => spec_l06Holes.l2 k l p s (i : Int)) (fun _ => True) := by
    intro d
    induction d with
    | zero =>
      intro i s _ hd _
      refine Ev.step (fun k => rfl) ?_
      simp only [spec_l06Holes.l2]
      exact Ev.neg (by omega) (Ev.pure trivial)
    | succ d ih =>
      intro i s h1 hd hs
      refine Ev.step (fun k => rfl) ?_
      simp only [spec_l06Holes.l2]
      by_cases hil : i < l.length
      · have hw : wrap64 ((i : Int) + 1) = ((i + 1 : Nat) : Int) := wrap_succ hil (by omega)
        refine Ev.pos (by omega) (Ev.pos (by omega) (Ev.pos (by omega) ?_))
        by_cases hx : rd p (i : Int) = (i : Int)
        · refine Ev.pos hx ?_
          refine Ev.upS (g := fun k j t => spec_l06Holes.l3 k l p s (i : Int) t (j : Int)) (P := fun j t => t.length ≤ j) (n := l.length) ?_ ?_ i [] (by omega) (by simp)
          · intro t ht
            refine Ev.step (fun k => rfl) ?_
            simp only [spec_l06Holes.l3]
            rw [hw]
            exact Ev.neg (by omega) (Ev.pos (by omega) (ih (i + 1) _ (by omega) (by omega) (by simp; omega)))
          · intro j t hj ht ih2
            refine Ev.step (fun k => rfl) ?_
            simp only [spec_l06Holes.l3]
            rw [wrap_succ hj (by omega)]
            refine Ev.pos (by omega) (Ev.pos (by omega) (Ev.pos (by omega) ?_))
            by_cases hy : rd p (j : Int) = (i : Int)
            · exact Ev.pos hy (Ev.pos (by omega) (ih2 _ (by simp; omega)))
            · exact Ev.neg hy (ih2 _ (by omega))
        · rw [hw]
          exact Ev.neg hx (ih (i + 1) s (by omega) (by omega) (by omega))
      · exact Ev.neg (by omega) (Ev.pure trivial)
  by_cases h : 1 ≤ l.length + 1
  · exact key l.length 1 [] (by omega) (by omega) (by simp)
  · omega
theorem holes_ends (l : List Cell) (h : Sh l = true) : Ev (fun k => spec_l06Holes.f k l) (fun _ => True) := by
  have hn := Sh_len h
  have h0 : l ≠ [] := fun e => by rw [e] at hn; simp at hn
  have hi : In 100 l := fun c hc => Sh_co h c hc
  unfold spec_l06Holes.f
  refine Ev.bindE (l02Least_eq l h0 (by omega)) ?_
  have hL := leastC_in h0 hi
  generalize leastC l = p at hL ⊢
  obtain ⟨x, y⟩ := p
  refine (size_ends l h).bind ?_
  rintro ⟨wd, hg⟩ ⟨⟨w0, w1⟩, g0, g1⟩
  replace w0 : 0 ≤ wd := w0
  replace w1 : wd ≤ 201 := w1
  replace g0 : 0 ≤ hg := g0
  replace g1 : hg ≤ 201 := g1
  replace hL : (-100 ≤ x ∧ x ≤ 100) ∧ -100 ≤ y ∧ y ≤ 100 := hL
  have eb : wrap64 (y - 1) = y - 1 := w64 (by omega) (by omega)
  have ea : wrap64 (x - 1) = x - 1 := w64 (by omega) (by omega)
  have eh : wrap64 (y + hg) = y + hg := w64 (by omega) (by omega)
  have ew : wrap64 (x + wd) = x + wd := w64 (by omega) (by omega)
  have row : ∀ (b : Int) (f : List Cell), y - 1 ≤ b → b ≤ y + hg →
      (∀ f' : List Cell, f'.length ≤ f.length + 203 → In 2000 f' → Ev (fun k => spec_l06Holes.l0 k l x y wd hg f' (wrap64 (b + 1))) (fun _ => True)) → In 2000 f → f.length ≤ 5000000 →
      Ev (fun k => spec_l06Holes.l1 k l x y wd hg f b (x - 1)) (fun _ => True) := by
    intro b f hb0 hb1 cont hf hfl
    have key : ∀ (d : Nat) (a : Int) (f' : List Cell), a + d = x + wd + 1 → x - 1 ≤ a → f'.length + d ≤ f.length + 203 → In 2000 f' → Ev (fun k => spec_l06Holes.l1 k l x y wd hg f' b a) (fun _ => True) := by
      intro d
      induction d with
      | zero =>
        intro a f' hd _ hl' hf'
        refine Ev.step (fun k => rfl) ?_
        simp only [spec_l06Holes.l1]
        rw [ew]
        exact Ev.neg (by omega) (cont f' (by omega) hf')
      | succ d ih =>
        intro a f' hd ha hl' hf'
        refine Ev.step (fun k => rfl) ?_
        simp only [spec_l06Holes.l1]
        rw [ew, w64 (n := a + 1) (by omega) (by omega)]
        refine Ev.pos (by omega) (Ev.bindE (l02Index_eq l _ _ (by omega)) ?_)
        by_cases hx : ixAt (a, b) 0 l < 0
        · refine Ev.pos hx (Ev.pos (by omega) (ih (a + 1) _ (by omega) (by omega) (by simp; omega) ?_))
          intro c hc
          rcases List.mem_append.1 hc with hc | hc
          · exact hf' c hc
          · rw [List.mem_singleton.1 hc]
            simp only
            omega
        · exact Ev.neg hx (ih (a + 1) f' (by omega) (by omega) (by omega) hf')
    exact key (wd + 2).toNat (x - 1) f (by omega) (by omega) (by omega) hf
  have all : ∀ (d : Nat) (b : Int) (f : List Cell), b + d = y + hg + 1 → y - 1 ≤ b → f.length + 203 * d ≤ 41209 → In 2000 f → Ev (fun k => spec_l06Holes.l0 k l x y wd hg f b) (fun _ => True) := by
    intro d
    induction d with
    | zero =>
      intro b f hd _ hl' hf
      refine Ev.step (fun k => rfl) ?_
      simp only [spec_l06Holes.l0]
      rw [eh]
      exact Ev.neg (by omega) ((parts_ends (by omega) (hf.mono' (by omega))).bind fun p hp => holes_tail f (by omega) p hp)
    | succ d ih =>
      intro b f hd hb hl' hf
      refine Ev.step (fun k => rfl) ?_
      simp only [spec_l06Holes.l0]
      rw [eh, ea]
      refine Ev.pos (by omega) (row b f hb (by omega) (fun f' h1 h2 => ?_) hf (by omega))
      rw [w64 (n := b + 1) (by omega) (by omega)]
      exact ih (b + 1) f' (by omega) (by omega) (by omega) h2
  rw [eb]
  exact all (hg + 2).toNat (y - 1) [] (by omega) (by omega) (by simp; omega) (fun c hc => by cases hc)
theorem plain_ends (l : List Cell) (hl : l.length ≤ 1000) : Ev (fun k => spec_IsPlain.f k l) (fun r => r = true → Sh l = true) := by
  unfold spec_IsPlain.f
  refine (connected_ends l hl).bind ?_
  intro b hb
  cases b
  · exact Ev.neg (by simp) (Ev.pure (by simp))
  · have h := hb rfl
    refine Ev.pos rfl ((code_ends l h).bind ?_)
    intro c _
    by_cases h0 : c = 0
    · refine Ev.pos h0 ((touch_ends l hl).bind ?_)
      intro t _
      cases t
      · exact Ev.neg (by simp) ((holes_ends l h).bind fun p _ => Ev.pure fun _ => h)
      · exact Ev.pos rfl (Ev.pure (by simp))
    · exact Ev.neg h0 (Ev.pure (by simp))
theorem nodup_le {α : Type} [DecidableEq α] : ∀ (a b : List α), a.Nodup → (∀ x ∈ a, x ∈ b) → a.length ≤ b.length
  | [], b, _, _ => Nat.zero_le _
  | x :: r, b, hn, hs => by
    obtain ⟨h1, h2⟩ := List.nodup_cons.1 hn
    have hx := hs x List.mem_cons_self
    have ih := nodup_le r (b.erase x) h2 (fun y hy => (List.mem_erase_of_ne (fun e => h1 (by rw [← e]; exact hy))).2 (hs y (List.mem_cons_of_mem _ hy)))
    rw [List.length_erase_of_mem hx] at ih
    have := List.length_pos_of_mem hx
    simp only [List.length_cons]
    omega
theorem comes_back {α : Type} [DecidableEq α] (f : α → α) (B : List α) (hB : ∀ x ∈ B, f x ∈ B) (inj : ∀ x ∈ B, ∀ y ∈ B, f x = f y → x = y) (e : α) (he : e ∈ B) (it : Nat → α) (h0 : it 0 = e) (hs : ∀ n, it (n + 1) = f (it n)) :
    ∃ n, 1 ≤ n ∧ n ≤ B.length ∧ it n = e := by
  have hin : ∀ n, it n ∈ B := by
    intro n
    induction n with
    | zero => rw [h0]; exact he
    | succ n ih => rw [hs]; exact hB _ ih
  apply Classical.byContradiction
  intro hno
  have back : ∀ i j, it i = it (i + j) → it 0 = it j := by
    intro i
    induction i with
    | zero => intro j h; rw [Nat.zero_add] at h; exact h
    | succ i ih =>
      intro j h
      rw [show i + 1 + j = (i + j) + 1 by omega, hs, hs] at h
      exact ih j (inj _ (hin _) _ (hin _) h)
  have hnd : ((List.range (B.length + 1)).map it).Nodup := by
    rw [List.nodup_iff_pairwise_ne, List.pairwise_map]
    refine List.Pairwise.imp_of_mem ?_ (List.pairwise_lt_range (n := B.length + 1))
    intro i j hi hj hij heq
    rw [List.mem_range] at hi hj
    refine hno ⟨j - i, by omega, by omega, ?_⟩
    have := back i (j - i) (by rw [show i + (j - i) = j by omega]; exact heq)
    rw [← this, h0]
  have := nodup_le _ B hnd (fun x hx => by
    obtain ⟨i, _, rfl⟩ := List.mem_map.1 hx
    exact hin i)
  rw [List.length_map, List.length_range] at this
  omega
def stp (d : Nat) : Int × Int := match d with | 0 => (1, 0) | 1 => (0, 1) | 2 => (-1, 0) | _ => (0, -1)
def ahd (x y : Int) (d : Nat) : Cell := match d with | 0 => ⟨x, y - 1⟩ | 1 => ⟨x, y⟩ | 2 => ⟨x - 1, y⟩ | _ => ⟨x - 1, y - 1⟩
abbrev Edge := Int × Int × Nat
def goto_ (e : Edge) : Int × Int := (e.1 + (stp e.2.2).1, e.2.1 + (stp e.2.2).2)
def nxt (l : List Cell) (e : Edge) : Edge :=
  let x := (goto_ e).1
  let y := (goto_ e).2
  (x, y, if ahd x y e.2.2 ∈ l then (e.2.2 + 3) % 4 else if ahd x y ((e.2.2 + 1) % 4) ∉ l then (e.2.2 + 1) % 4 else e.2.2)
def rgt (e : Edge) : Cell := ahd e.1 e.2.1 ((e.2.2 + 1) % 4)
def lft (e : Edge) : Cell := ahd e.1 e.2.1 e.2.2
def Bnd (l : List Cell) (e : Edge) : Prop := e.2.2 < 4 ∧ rgt e ∈ l ∧ lft e ∉ l
theorem behind (e : Edge) (h : e.2.2 < 4) : rgt e = ahd (goto_ e).1 (goto_ e).2 ((e.2.2 + 2) % 4) ∧ lft e = ahd (goto_ e).1 (goto_ e).2 ((e.2.2 + 3) % 4) := by
  obtain ⟨x, y, d⟩ := e
  replace h : d < 4 := h
  have : d = 0 ∨ d = 1 ∨ d = 2 ∨ d = 3 := by omega
  rcases this with rfl | rfl | rfl | rfl <;> (simp only [rgt, lft, ahd, goto_, stp]; constructor <;> (congr 1 <;> omega))
theorem nxt_bnd {l : List Cell} {e : Edge} (h : Bnd l e) : Bnd l (nxt l e) := by
  obtain ⟨hd, hr, hl⟩ := h
  have hb := behind e hd
  rw [hb.1] at hr
  rw [hb.2] at hl
  obtain ⟨x, y, d⟩ := e
  replace hd : d < 4 := hd
  unfold nxt Bnd rgt lft
  generalize goto_ (x, y, d) = p at hr hl ⊢
  obtain ⟨px, py⟩ := p
  simp only at hr hl ⊢
  by_cases h1 : ahd px py d ∈ l
  · rw [if_pos h1]
    refine ⟨by omega, ?_, hl⟩
    rw [show ((d + 3) % 4 + 1) % 4 = d by omega]
    exact h1
  · rw [if_neg h1]
    by_cases h2 : ahd px py ((d + 1) % 4) ∉ l
    · rw [if_pos h2]
      refine ⟨by omega, ?_, h2⟩
      rw [show ((d + 1) % 4 + 1) % 4 = (d + 2) % 4 by omega]
      exact hr
    · rw [if_neg h2]
      exact ⟨hd, Classical.byContradiction h2, h1⟩
theorem nxt_cases {l : List Cell} {e : Edge} (h : Bnd l e) (d' : Nat) (hd' : (nxt l e).2.2 = d') :
    (e.2.2 = (d' + 1) % 4 ∧ ahd (goto_ e).1 (goto_ e).2 ((d' + 3) % 4) ∈ l) ∨ (e.2.2 = d' ∧ ahd (goto_ e).1 (goto_ e).2 ((d' + 2) % 4) ∈ l ∧ ahd (goto_ e).1 (goto_ e).2 ((d' + 3) % 4) ∉ l) ∨ (e.2.2 = (d' + 3) % 4 ∧ ahd (goto_ e).1 (goto_ e).2 ((d' + 2) % 4) ∉ l ∧ ahd (goto_ e).1 (goto_ e).2 ((d' + 3) % 4) ∉ l) := by
  obtain ⟨hd, hr, hl⟩ := h
  have hb := behind e hd
  rw [hb.1] at hr
  rw [hb.2] at hl
  obtain ⟨x, y, d⟩ := e
  replace hd : d < 4 := hd
  unfold nxt at hd'
  generalize goto_ (x, y, d) = p at hr hl hd' ⊢
  obtain ⟨px, py⟩ := p
  simp only at hr hl hd' ⊢
  by_cases h1 : ahd px py d ∈ l
  · rw [if_pos h1] at hd'
    left
    refine ⟨by omega, ?_⟩
    rw [show (d' + 3) % 4 = (d + 2) % 4 by omega]
    exact hr
  · rw [if_neg h1] at hd'
    by_cases h2 : ahd px py ((d + 1) % 4) ∉ l
    · rw [if_pos h2] at hd'
      right; right
      refine ⟨by omega, ?_, ?_⟩
      · rw [show (d' + 2) % 4 = (d + 3) % 4 by omega]; exact hl
      · rw [show (d' + 3) % 4 = d by omega]; exact h1
    · rw [if_neg h2] at hd'
      right; left
      subst hd'
      exact ⟨rfl, hr, hl⟩
theorem goto_inj {e e' : Edge} (h : goto_ e = goto_ e') (hd : e.2.2 = e'.2.2) : e = e' := by
  obtain ⟨x, y, d⟩ := e
  obtain ⟨x', y', d'⟩ := e'
  simp only at hd
  subst hd
  obtain ⟨h1, h2⟩ := Prod.mk.inj h
  replace h1 : x + (stp d).1 = x' + (stp d).1 := h1
  replace h2 : y + (stp d).2 = y' + (stp d).2 := h2
  have e1 : x = x' := by omega
  have e2 : y = y' := by omega
  rw [e1, e2]
theorem nxt_inj {l : List Cell} {e e' : Edge} (h : Bnd l e) (h' : Bnd l e') (heq : nxt l e = nxt l e') : e = e' := by
  have hp : goto_ e = goto_ e' := by
    have h1 := congrArg (fun z => z.1) heq
    have h2 := congrArg (fun z => z.2.1) heq
    exact Prod.ext h1 h2
  have c := nxt_cases h _ rfl
  have c' := nxt_cases h' _ rfl
  rw [heq, hp] at c
  refine goto_inj hp ?_
  rcases c with ⟨a, b⟩ | ⟨a, b, b2⟩ | ⟨a, b, b2⟩ <;> rcases c' with ⟨a', b'⟩ | ⟨a', b', b2'⟩ | ⟨a', b', b2'⟩ <;> (first | (rw [a, a']; done) | (exact absurd b b2') | (exact absurd b' b2) | (exact absurd b b') | (exact absurd b' b))
def mkE (d : Nat) (c : Cell) : Edge := match d with | 0 => (c.f0, c.f1, 0) | 1 => (c.f0 + 1, c.f1, 1) | 2 => (c.f0 + 1, c.f1 + 1, 2) | _ => (c.f0, c.f1 + 1, 3)
theorem mkE_rgt (e : Edge) (h : e.2.2 < 4) : mkE e.2.2 (rgt e) = e := by
  obtain ⟨x, y, d⟩ := e
  replace h : d < 4 := h
  have : d = 0 ∨ d = 1 ∨ d = 2 ∨ d = 3 := by omega
  rcases this with rfl | rfl | rfl | rfl <;> simp [mkE, rgt, ahd]
instance (l : List Cell) (e : Edge) : Decidable (Bnd l e) := by unfold Bnd; exact inferInstance
def bnds (l : List Cell) : List Edge := ((List.range 4).flatMap fun d => l.map (mkE d)).filter (fun e => decide (Bnd l e))
theorem bnds_mem {l : List Cell} {e : Edge} : e ∈ bnds l ↔ Bnd l e := by
  unfold bnds
  rw [List.mem_filter]
  simp only [decide_eq_true_eq]
  constructor
  · exact fun h => h.2
  · intro h
    refine ⟨?_, h⟩
    rw [List.mem_flatMap]
    exact ⟨e.2.2, List.mem_range.2 h.1, List.mem_map.2 ⟨rgt e, h.2.1, mkE_rgt e h.1⟩⟩
theorem bnds_len (l : List Cell) : (bnds l).length ≤ 4 * l.length := by
  unfold bnds
  refine Nat.le_trans (List.length_filter_le _ _) ?_
  simp [List.range_succ]
  omega
def itE (l : List Cell) (e : Edge) : Nat → Edge
  | 0 => e
  | n + 1 => nxt l (itE l e n)
theorem round {l : List Cell} {e : Edge} (h : Bnd l e) : ∃ n, 1 ≤ n ∧ n ≤ 4 * l.length ∧ itE l e n = e := by
  obtain ⟨n, h1, h2, h3⟩ := comes_back (nxt l) (bnds l) (fun x hx => bnds_mem.2 (nxt_bnd (bnds_mem.1 hx))) (fun x hx y hy => nxt_inj (bnds_mem.1 hx) (bnds_mem.1 hy)) e (bnds_mem.2 h) (itE l e) rfl (fun n => rfl)
  exact ⟨n, h1, Nat.le_trans h2 (bnds_len l), h3⟩
theorem steps_rd (d : Nat) (h : d < 4) : rd_T42 ([(⟨1, 0⟩ : S42), (⟨0, 1⟩ : S42), (⟨(-1), 0⟩ : S42), (⟨0, (-1)⟩ : S42)] : List Cell) (d : Int) = ⟨(stp d).1, (stp d).2⟩ := by
  have : d = 0 ∨ d = 1 ∨ d = 2 ∨ d = 3 := by omega
  rcases this with rfl | rfl | rfl | rfl <;> rfl
theorem ahead_rd (x y : Int) (hx : -1000000 ≤ x ∧ x ≤ 1000000) (hy : -1000000 ≤ y ∧ y ≤ 1000000) (d : Nat) (h : d < 4) :
    rd_T42 ([(⟨x, wrap64 (y - 1)⟩ : S42), (⟨x, y⟩ : S42), (⟨wrap64 (x - 1), y⟩ : S42), (⟨wrap64 (x - 1), wrap64 (y - 1)⟩ : S42)] : List Cell) (d : Int) = ahd x y d := by
  rw [w64 (n := y - 1) (by omega) (by omega), w64 (n := x - 1) (by omega) (by omega)]
  have : d = 0 ∨ d = 1 ∨ d = 2 ∨ d = 3 := by omega
  rcases this with rfl | rfl | rfl | rfl <;> rfl
theorem turn_mod {d a : Nat} (h : d < 4) (ha : a ≤ 3) : Int.tmod (wrap64 ((d : Int) + (a : Int))) 4 = (((d + a) % 4 : Nat) : Int) := by
  rw [w64 (by omega) (by omega), Int.tmod_eq_emod_of_nonneg (by omega)]
  omega
theorem ahd_in {x y : Int} {d : Nat} {b : Int} (h : (-b ≤ (ahd x y d).f0 ∧ (ahd x y d).f0 ≤ b) ∧ -b ≤ (ahd x y d).f1 ∧ (ahd x y d).f1 ≤ b) : (-b ≤ x ∧ x ≤ b + 1) ∧ -b ≤ y ∧ y ≤ b + 1 := by
  unfold ahd at h
  split at h <;> simp only at h <;> omega
theorem word_go {l : List Cell} (hl : l.length ≤ 1000) (hi : In 1000 l) {sx sy : Int} {e0 : Edge} (he0 : e0.1 = sx ∧ e0.2.1 = sy) {Q : ByteArray → Prop}
    (hQ : ∀ o : List Int, o.length ≤ 5000 → Q (strOfNums o)) :
    ∀ (n : Nat) (e : Edge) (o : List Int), Bnd l e → itE l e n = e0 → 1 ≤ n → o.length + n ≤ 5000 → Ev (fun k => spec_l23Word.l0 k l o (e.2.2 : Int) sx sy e.1 e.2.1) Q := by
  intro n
  induction n with
  | zero => intro e o _ _ h; omega
  | succ n ih =>
    intro e o hb hit _ ho
    have hr := ahd_in (hi _ hb.2.1)
    obtain ⟨x, y, d⟩ := e
    have hd : d < 4 := hb.1
    replace hr : (-1000 ≤ x ∧ x ≤ 1000 + 1) ∧ -1000 ≤ y ∧ y ≤ 1000 + 1 := hr
    have hst : (-1 ≤ (stp d).1 ∧ (stp d).1 ≤ 1) ∧ -1 ≤ (stp d).2 ∧ (stp d).2 ≤ 1 := by
      unfold stp
      split <;> simp
    have hnx : nxt l (x, y, d) = (x + (stp d).1, y + (stp d).2, (nxt l (x, y, d)).2.2) := rfl
    have hit2 : itE l (nxt l (x, y, d)) n = e0 := by
      have sw : ∀ m (q : Edge), itE l q (m + 1) = itE l (nxt l q) m := by
        intro m
        induction m with
        | zero => intro q; rfl
        | succ m ihm => intro q; exact congrArg (nxt l) (ihm q)
      rw [← sw]; exact hit
    refine Ev.step (fun k => rfl) ?_
    simp only [spec_l23Word.l0, Option.bind_some, steps_rd d hd]
    rw [w64 (n := x + (stp d).1) (by omega) (by omega), w64 (n := y + (stp d).2) (by omega) (by omega)]
    have hx1 : -1000000 ≤ x + (stp d).1 ∧ x + (stp d).1 ≤ 1000000 := by omega
    have hy1 : -1000000 ≤ y + (stp d).2 ∧ y + (stp d).2 ≤ 1000000 := by omega
    have hdm : (d + 1) % 4 < 4 := by omega
    have t1 : Int.tmod (wrap64 ((d : Int) + 1)) 4 = (((d + 1) % 4 : Nat) : Int) := turn_mod (a := 1) hd (by omega)
    have t3 : Int.tmod (wrap64 ((d : Int) + 3)) 4 = (((d + 3) % 4 : Nat) : Int) := turn_mod (a := 3) hd (by omega)
    rw [t1, t3, ahead_rd _ _ hx1 hy1 d hd, ahead_rd _ _ hx1 hy1 ((d + 1) % 4) hdm]
    clear t1 t3
    have hd4 : (d : Int) < ((4 : Nat) : Int) := by omega
    have hd5 : ((((d + 1) % 4 : Nat)) : Int) < ((4 : Nat) : Int) := by omega
    refine Ev.pos (by omega) (Ev.pos (by omega) (Ev.pos (by omega) (Ev.pos hd4 ?_)))
    by_cases hend : (x + (stp d).1 == sx && y + (stp d).2 == sy) = true
    · exact Ev.pos hend (Ev.pure (hQ _ (by simp; omega)))
    · refine Ev.neg hend (Ev.pos hd4 (Ev.pos (by omega) (Ev.pos hd5 ?_)))
      have hn1 : 1 ≤ n := by
        rcases Nat.eq_zero_or_pos n with h0 | h0
        · exfalso
          subst h0
          have e1 : nxt l (x, y, d) = e0 := hit2
          rw [hnx] at e1
          rw [← e1] at he0
          apply hend
          obtain ⟨q1, q2⟩ := he0
          simp only at q1 q2
          rw [q1, q2]
          simp
        · exact h0
      have go := ih (nxt l (x, y, d)) (o ++ [bt (⟨#[114, 100, 108, 117]⟩ : ByteArray) (d : Int)]) (nxt_bnd hb) hit2 hn1 (by simp; omega)
      rw [hnx] at go
      have hx1 := ixAt_lt (ahd (x + (stp d).1) (y + (stp d).2) d) l
      have hx2 := ixAt_lt (ahd (x + (stp d).1) (y + (stp d).2) ((d + 1) % 4)) l
      have hdd : (nxt l (x, y, d)).2.2 = if ahd (x + (stp d).1) (y + (stp d).2) d ∈ l then (d + 3) % 4 else if ahd (x + (stp d).1) (y + (stp d).2) ((d + 1) % 4) ∉ l then (d + 1) % 4 else d := rfl
      rw [hdd] at go
      refine Ev.bindE (l02Index_eq l _ _ (by omega)) ?_
      by_cases h1 : ahd (x + (stp d).1) (y + (stp d).2) d ∈ l
      · rw [if_pos h1] at go
        exact Ev.pos (Int.not_lt.1 (fun h => hx1.1 h h1)) go
      · rw [if_neg h1] at go
        refine Ev.neg (fun h => by have := hx1.2 h1; omega) (Ev.bindE (l02Index_eq l _ _ (by omega)) ?_)
        by_cases h2 : ahd (x + (stp d).1) (y + (stp d).2) ((d + 1) % 4) ∉ l
        · rw [if_pos h2] at go
          exact Ev.pos (hx2.2 h2) go
        · rw [if_neg h2] at go
          exact Ev.neg (fun h => h2 (hx2.1 h)) go
theorem above_first {l : List Cell} (h : Sh l = true) : (⟨(l.getD 0 z42).f0, (l.getD 0 z42).f1 - 1⟩ : Cell) ∉ l := by
  have hn := Sh_len h
  have hall : ∀ i, i < l.length → (l.getD 0 z42).f1 ≤ (l.getD i z42).f1 := by
    unfold Sh at h
    simp only [Bool.and_eq_true, decide_eq_true_eq] at h
    intro i
    induction i with
    | zero => intro _; exact Int.le_refl _
    | succ i ih =>
      intro hi
      have h2 := allF_true.1 h.1 (i + 1) (Nat.zero_le _) hi
      unfold shOk lessC at h2
      simp only [Bool.and_eq_true, Bool.or_eq_true, decide_eq_true_eq, Nat.add_sub_cancel] at h2
      have := ih (by omega)
      rcases h2.2 with h3 | h3 | h3
      · omega
      · omega
      · omega
  intro hm
  obtain ⟨i, hi, he⟩ := List.getElem_of_mem hm
  have := hall i hi
  have e2 : (l.getD i z42) = l[i] := by simp [List.getD_eq_getElem?_getD, List.getElem?_eq_getElem hi]
  rw [e2, he] at this
  simp only at this
  omega
theorem word_ends (l : List Cell) (h : Sh l = true) : Ev (fun k => spec_l23Word.f k l) (fun w => ∃ o : List Int, o.length ≤ 5000 ∧ w = strOfNums o) := by
  have hn := Sh_len h
  have hi : In 1000 l := fun c hc => by have := Sh_co h c hc; omega
  have hb : Bnd l ((l.getD 0 z42).f0, (l.getD 0 z42).f1, 0) := by
    refine ⟨by simp, ?_, above_first h⟩
    show (⟨(l.getD 0 z42).f0, (l.getD 0 z42).f1⟩ : Cell) ∈ l
    exact getD_mem0 l 0 z42 (by omega)
  obtain ⟨n, h1, h2, h3⟩ := round hb
  unfold spec_l23Word.f
  have e0 : rd_T42 l 0 = l.getD 0 z42 := rd_getD l 0
  rw [e0]
  exact Ev.pos (by omega) (word_go (by omega) hi (e0 := ((l.getD 0 z42).f0, (l.getD 0 z42).f1, 0)) ⟨rfl, rfl⟩ (fun o ho => ⟨o, ho, rfl⟩) n _ [] hb h3 h1 (by simp; omega))
theorem strOf_size (o : List Int) : (strOfNums o).size = o.length := by
  simp [strOfNums, ByteArray.size]
def Wd (l : List Int) (r : ByteArray × Int × Int) : Prop := r.1.size ≤ 5000 ∧ Src l r.2.1 r.2.2
theorem letters_rd (j : Nat) (h : j < 4) : (rdOf ByteArray.empty ([(⟨#[114]⟩ : ByteArray), (⟨#[100]⟩ : ByteArray), (⟨#[108]⟩ : ByteArray), (⟨#[117]⟩ : ByteArray)] : List ByteArray) (j : Int)).size = 1 := by
  have : j = 0 ∨ j = 1 ∨ j = 2 ∨ j = 3 := by omega
  rcases this with rfl | rfl | rfl | rfl <;> rfl
theorem fill_ends {l : List Int} (hb : Bytes l) : ∀ (d : Nat) (w : ByteArray) (a s : Int), 300 - w.size ≤ d → w.size ≤ 300 → Src l a s → Ev (fun k => spec_l23Draw.l1 k w l a s) (Wd l) := by
  intro d
  induction d with
  | zero =>
    intro w a s h1 h2 hs
    obtain ⟨r, a', s', hr, hs', r0, r1, _⟩ := next_ok hb hs 2 (by omega)
    have r2 := r1 (by omega)
    refine Ev.step (fun k => rfl) ?_
    simp only [spec_l23Draw.l1, hr, Option.bind_some]
    rw [w64 (n := 200 + r) (by omega) (by omega)]
    exact Ev.neg (by omega) (Ev.pure ⟨by show w.size ≤ 5000; omega, hs'⟩)
  | succ d ih =>
    intro w a s h1 h2 hs
    obtain ⟨r, a', s', hr, hs', r0, r1, _⟩ := next_ok hb hs 2 (by omega)
    have r2 := r1 (by omega)
    refine Ev.step (fun k => rfl) ?_
    simp only [spec_l23Draw.l1, hr, Option.bind_some]
    rw [w64 (n := 200 + r) (by omega) (by omega)]
    by_cases hc : (w.size : Int) < 200 + r
    · have e : (w ++ (⟨#[114]⟩ : ByteArray)).size = w.size + 1 := by rw [ByteArray.size_append]; rfl
      exact Ev.pos hc (Ev.pos (by omega) (ih _ _ _ (by rw [e]; omega) (by rw [e]; omega) hs'))
    · exact Ev.neg hc (Ev.pure ⟨by show w.size ≤ 5000; omega, hs'⟩)
theorem rand_ends {l : List Int} (hb : Bytes l) : ∀ (n : Nat) (w : ByteArray) (a s : Int), w.size + n ≤ 100 → Src l a s → Ev (fun k => spec_l23Draw.l0 k w (n : Int) l a s) (Wd l) := by
  intro n
  induction n with
  | zero =>
    intro w a s h1 hs
    obtain ⟨r, a', s', hr, hs', r0, r1, _⟩ := next_ok hb hs 12 (by omega)
    refine Ev.step (fun k => rfl) ?_
    simp only [spec_l23Draw.l0, hr, Option.bind_some]
    refine Ev.neg (by omega) ?_
    by_cases h0 : r = 0
    · have e : (w ++ (⟨#[120]⟩ : ByteArray)).size = w.size + 1 := by rw [ByteArray.size_append]; rfl
      exact Ev.pos h0 (Ev.pos (by omega) (Ev.pure ⟨by show (w ++ (⟨#[120]⟩ : ByteArray)).size ≤ 5000; rw [e]; omega, hs'⟩))
    · refine Ev.neg h0 ?_
      by_cases h2 : r = 1
      · exact Ev.pos h2 (fill_ends hb 300 w a' s' (by omega) (by omega) hs')
      · exact Ev.neg h2 (Ev.pure ⟨by show w.size ≤ 5000; omega, hs'⟩)
  | succ n ih =>
    intro w a s h1 hs
    obtain ⟨r, a', s', hr, hs', r0, r1, _⟩ := next_ok hb hs 4 (by omega)
    have r2 := r1 (by omega)
    obtain ⟨j, rfl⟩ : ∃ j : Nat, r = (j : Int) := ⟨r.toNat, by omega⟩
    refine Ev.step (fun k => rfl) ?_
    simp only [spec_l23Draw.l0, hr, Option.bind_some]
    have hl := letters_rd j (by omega)
    have hj4 : (j : Int) < ((4 : Nat) : Int) := by omega
    refine Ev.pos (by omega) (Ev.pos r0 (Ev.pos hj4 ?_))
    generalize rdOf ByteArray.empty ([(⟨#[114]⟩ : ByteArray), (⟨#[100]⟩ : ByteArray), (⟨#[108]⟩ : ByteArray), (⟨#[117]⟩ : ByteArray)] : List ByteArray) (j : Int) = c at hl ⊢
    refine Ev.pos (by omega) ?_
    have ew : wrap64 (((n + 1 : Nat) : Int) - 1) = (n : Int) := by rw [w64 (by omega) (by omega)]; omega
    rw [ew]
    exact ih _ _ _ (by rw [ByteArray.size_append]; omega) hs'
theorem other_ends {l : List Int} (hb : Bytes l) {a s : Int} (hs : Src l a s) : Ev (fun k => spec_l23Draw.j0 k l a s) (Wd l) := by
  obtain ⟨r, a', s', hr, hs', r0, r1, _⟩ := next_ok hb hs 12 (by omega)
  have r2 := r1 (by omega)
  obtain ⟨j, rfl⟩ : ∃ j : Nat, r = (j : Int) := ⟨r.toNat, by omega⟩
  refine Ev.step (fun k => rfl) ?_
  simp only [spec_l23Draw.j0, hr, Option.bind_some]
  exact rand_ends hb j _ a' s' (by have : (⟨#[]⟩ : ByteArray).size = 0 := rfl; omega) hs'
theorem draw_word_ends {l : List Int} (hb : Bytes l) {a s : Int} (hs : Src l a s) : Ev (fun k => spec_l23Draw.f k l a s) (Wd l) := by
  obtain ⟨r, a', s', hr, hs', r0, r1, _⟩ := next_ok hb hs 3 (by omega)
  unfold spec_l23Draw.f
  simp only [hr, Option.bind_some]
  by_cases h0 : r > 0
  · refine Ev.pos h0 ?_
    obtain ⟨sh, a2, s2, hp, hs2, _, hlen, _⟩ := poly_ok hb hs' 8 (by omega) (by omega)
    refine Ev.bindE hp ((plain_ends sh (by omega)).bind ?_)
    intro b hbq
    cases b
    · exact Ev.neg (by simp) (other_ends hb hs2)
    · refine Ev.pos rfl ((word_ends sh (hbq rfl)).bind ?_)
      rintro w ⟨o, ho, rfl⟩
      exact Ev.pure ⟨by show (strOfNums o).size ≤ 5000; rw [strOf_size]; exact ho, hs2⟩
  · exact Ev.neg h0 (other_ends hb hs')
end Go.Proofs.YtcgnnfaemjjljaaDoor.Pure
end
section
namespace Go.Proofs.YtcgnnfaemjjljaaDoor.Pure
open Go.RowKit Go.Proofs.YtcgnnfaemjjljaaDoor Go.Proofs.YtcgnnfaemjjljaaDoor.Q Go.Proofs.YtcgnnfaemjjljaaDoorW.PrintWords
set_option linter.unusedVariables false
set_option linter.unusedSimpArgs false
abbrev bl (s : ByteArray) : List UInt8 := s.data.toList
theorem bl_len (s : ByteArray) : (bl s).length = s.size := by
  unfold bl
  rw [Array.length_toList]
  rfl
theorem toList_bl (s : ByteArray) : s.toList = bl s := Lib.toList_data s
theorem bt_bl (s : ByteArray) (i : Nat) (h : i < (bl s).length) : bt s (i : Int) = (((bl s)[i]).toNat : Int) := by
  have h2 : i < s.size := by rw [← bl_len]; exact h
  unfold bt
  rw [Int.toNat_natCast, dif_pos h2]
  rfl
theorem u8_iff (b : UInt8) (n : Nat) (hn : n < 256) : ((b.toNat : Int) = (n : Int)) ↔ b = UInt8.ofNat n := by
  constructor
  · intro h
    apply UInt8.toNat_inj.1
    rw [UInt8.toNat_ofNat_of_lt' (by simpa using hn)]
    omega
  · intro h
    rw [h, UInt8.toNat_ofNat_of_lt' (by simpa using hn)]
theorem u114 (b : UInt8) : ((b.toNat : Int) = 114) ↔ b = 114 := u8_iff b 114 (by omega)
theorem u100 (b : UInt8) : ((b.toNat : Int) = 100) ↔ b = 100 := u8_iff b 100 (by omega)
theorem u108 (b : UInt8) : ((b.toNat : Int) = 108) ↔ b = 108 := u8_iff b 108 (by omega)
theorem u117 (b : UInt8) : ((b.toNat : Int) = 117) ↔ b = 117 := u8_iff b 117 (by omega)
theorem isL_iff (b : UInt8) : isL b = true ↔ b = 114 ∨ b = 100 ∨ b = 108 ∨ b = 117 := by
  unfold isL
  simp
  constructor
  · rintro (((h | h) | h) | h) <;> simp [h]
  · rintro (h | h | h | h) <;> simp [h]
def isW (s : ByteArray) : Bool := (bl s).all isL && decide (s.size ≤ 200)
theorem isW_all {s : ByteArray} (h : isW s = true) : (bl s).all isL = true := (Bool.and_eq_true_iff.mp h).1
theorem isW_size {s : ByteArray} (h : isW s = true) : s.size ≤ 200 := by simpa using (Bool.and_eq_true_iff.mp h).2
theorem l23Is_eq (s : ByteArray) (hs : s.size ≤ 9223372036854775807) : Evt (fun k => spec_l23Is.f k s) (isW s) := by
  unfold spec_l23Is.f
  have h := Evt.up (g := fun k i => spec_l23Is.l0 k s (i : Int)) (R := fun i => ((bl s).drop i).all isL && decide (s.size ≤ 200)) (n := s.size) ?_ ?_ 0 (Nat.zero_le _)
  · exact h
  · refine Evt.step (fun k => rfl) ?_
    simp only [spec_l23Is.l0]
    refine Evt.ite_neg (by omega) ?_
    rw [List.drop_of_length_le (by rw [bl_len]; omega)]
    refine Evt.const ?_
    congr 1
    simp
    omega
  · intro i hi ih
    have hl : i < (bl s).length := by rw [bl_len]; exact hi
    refine Evt.step (fun k => rfl) ?_
    simp only [spec_l23Is.l0, bt_bl s i hl]
    refine Evt.ite_pos (by omega) (Evt.ite_pos (by omega) ?_)
    rw [List.drop_eq_getElem_cons hl, List.all_cons, wrap_succ hi hs]
    simp only [u114, u100, u108, u117]
    by_cases h1 : (bl s)[i] = 114
    · refine Evt.ite_pos h1 ?_
      rw [show isL (bl s)[i] = true from (isL_iff _).2 (Or.inl h1), Bool.true_and]
      exact ih
    · refine Evt.ite_neg h1 ?_
      by_cases h2 : (bl s)[i] = 100
      · refine Evt.ite_pos h2 ?_
        rw [show isL (bl s)[i] = true from (isL_iff _).2 (Or.inr (Or.inl h2)), Bool.true_and]
        exact ih
      · refine Evt.ite_neg h2 ?_
        by_cases h3 : (bl s)[i] = 108
        · refine Evt.ite_pos h3 ?_
          rw [show isL (bl s)[i] = true from (isL_iff _).2 (Or.inr (Or.inr (Or.inl h3))), Bool.true_and]
          exact ih
        · refine Evt.ite_neg h3 ?_
          by_cases h4 : (bl s)[i] = 117
          · refine Evt.ite_pos h4 ?_
            rw [show isL (bl s)[i] = true from (isL_iff _).2 (Or.inr (Or.inr (Or.inr h4))), Bool.true_and]
            exact ih
          · refine Evt.ite_neg h4 ?_
            rw [show isL (bl s)[i] = false from Bool.eq_false_iff.mpr (fun h => by rcases (isL_iff _).1 h with h | h | h | h <;> contradiction)]
            exact Evt.pure
theorem dw_nil {p : UInt8 → Bool} : ∀ l : List UInt8, (∀ x ∈ l.dropWhile p, p x = true) → l.dropWhile p = []
  | [], _ => rfl
  | a :: r, h => by
    by_cases ha : p a = true
    · rw [List.dropWhile_cons_of_pos ha] at h ⊢
      exact dw_nil r h
    · rw [List.dropWhile_cons_of_neg ha] at h
      exact absurd (h a List.mem_cons_self) ha
theorem dw_all {p : UInt8 → Bool} : ∀ l : List UInt8, l.dropWhile p = [] ↔ ∀ x ∈ l, p x = true
  | [] => by simp
  | a :: r => by
    by_cases ha : p a = true
    · rw [List.dropWhile_cons_of_pos ha, dw_all r]
      simp [ha]
    · rw [List.dropWhile_cons_of_neg ha]
      simp [ha]
theorem trimS_nil (l cs : List UInt8) : Lib.trimS l cs = [] ↔ ∀ b ∈ l, cs.contains b = true := by
  unfold Lib.trimS Lib.trimLeftS Lib.trimRightS
  rw [dw_all]
  constructor
  · intro h b hb
    have h2 : l.reverse.dropWhile (cs.contains ·) = [] := dw_nil _ (fun x hx => h x (by simpa using hx))
    exact (dw_all _).1 h2 b (by simpa using hb)
  · intro h x hx
    have h2 : l.reverse.dropWhile (cs.contains ·) = [] := (dw_all _).2 (fun y hy => h y (by simpa using hy))
    rw [h2] at hx
    simp at hx
theorem circ_contains (b : UInt8) : ([114, 100, 108, 117] : List UInt8).contains b = isL b := by
  rw [Bool.eq_iff_iff, isL_iff]
  simp
theorem isWord_eq (s : ByteArray) : impl_isWord.f s = some (isW s) := by
  unfold impl_isWord.f strings_Trim.f
  by_cases h : s.size ≤ 200
  · rw [if_pos (by omega), if_pos ⟨by omega, by decide, by decide⟩]
    simp only [Option.bind_some]
    congr 1
    unfold isW
    rw [decide_eq_true h, Bool.and_true, Bool.eq_iff_iff, List.all_eq_true, beq_iff_eq, toList_bl]
    show Lib.trimS (bl s) [114, 100, 108, 117] = [] ↔ _
    rw [trimS_nil]
    simp only [circ_contains]
  · rw [if_neg (by omega)]
    unfold isW
    rw [decide_eq_false h, Bool.and_false]
def sx : List UInt8 → Int
  | [] => 0
  | b :: r => dxL b + sx r
def sy : List UInt8 → Int
  | [] => 0
  | b :: r => dyL b + sy r
theorem l23Step_eq (b : UInt8) : spec_l23Step.f (b.toNat : Int) = some (dxL b, dyL b) := by
  unfold spec_l23Step.f dxL dyL
  simp only [u114, u100, u108]
  by_cases h1 : b = 114
  · simp [h1]
  · by_cases h2 : b = 100
    · simp [h2]
    · by_cases h3 : b = 108
      · simp [h3]
      · simp [h1, h2, h3]
theorem dx_bd (b : UInt8) : -1 ≤ dxL b ∧ dxL b ≤ 1 := by
  unfold dxL
  repeat (first | split | omega)
theorem dy_bd (b : UInt8) : -1 ≤ dyL b ∧ dyL b ≤ 1 := by
  unfold dyL
  repeat (first | split | omega)
theorem l23End_eq (s : ByteArray) (hs : s.size ≤ 1000000000) : Evt (fun k => spec_l23End.f k s) (sx (bl s), sy (bl s)) := by
  unfold spec_l23End.f
  have h := Evt.upS (g := fun k i (p : Int × Int) => spec_l23End.l0 k s (i : Int) p.1 p.2) (R := fun i p => (p.1 + sx ((bl s).drop i), p.2 + sy ((bl s).drop i))) (P := fun i p => (-(i : Int) ≤ p.1 ∧ p.1 ≤ i) ∧ -(i : Int) ≤ p.2 ∧ p.2 ≤ i) (n := s.size) ?_ ?_ 0 (0, 0) (Nat.zero_le _) (by simp)
  · simpa using h
  · rintro ⟨x, y⟩ _
    refine Evt.step (fun k => rfl) ?_
    simp only [spec_l23End.l0]
    refine Evt.ite_neg (by omega) ?_
    rw [List.drop_of_length_le (by rw [bl_len]; omega)]
    simp only [sx, sy, Int.add_zero]
    exact Evt.pure
  · rintro i ⟨x, y⟩ hi ⟨⟨x0, x1⟩, y0, y1⟩ ih
    have hl : i < (bl s).length := by rw [bl_len]; exact hi
    have bx := dx_bd (bl s)[i]
    have byy := dy_bd (bl s)[i]
    refine Evt.step (fun k => rfl) ?_
    simp only [spec_l23End.l0, bt_bl s i hl, l23Step_eq, Option.bind_some]
    refine Evt.ite_pos (by omega) (Evt.ite_pos (by omega) ?_)
    simp only at x0 x1 y0 y1
    rw [wrap_succ hi (by omega), w64 (n := x + dxL (bl s)[i]) (by omega) (by omega), w64 (n := y + dyL (bl s)[i]) (by omega) (by omega)]
    have h2 := ih (x + dxL (bl s)[i], y + dyL (bl s)[i]) ⟨⟨by simp only; omega, by simp only; omega⟩, by simp only; omega, by simp only; omega⟩
    rw [List.drop_eq_getElem_cons hl]
    simp only [sx, sy] at h2 ⊢
    rw [← Int.add_assoc, ← Int.add_assoc]
    exact h2
def isC (s : ByteArray) : Bool := sx (bl s) == 0 && sy (bl s) == 0
theorem count_xy : ∀ l : List UInt8, l.all isL = true → sx l = (l.count 114 : Int) - l.count 108 ∧ sy l = (l.count 100 : Int) - l.count 117
  | [], _ => by simp [sx, sy]
  | b :: r, h => by
    rw [List.all_cons, Bool.and_eq_true_iff] at h
    obtain ⟨h1, h2⟩ := count_xy r h.2
    unfold sx sy
    rw [h1, h2]
    rcases (isL_iff b).1 h.1 with rfl | rfl | rfl | rfl <;> simp [dxL, dyL, List.count_cons] <;> omega
theorem isClosed_eq (s : ByteArray) (h : (bl s).all isL = true) : impl_isClosed.f s = some (isC s) := by
  unfold impl_isClosed.f strings_Count.f
  have e : ∀ c : UInt8, (⟨#[c]⟩ : ByteArray).size = 1 := fun _ => rfl
  have g : ∀ c : UInt8, (⟨#[c]⟩ : ByteArray).data.toList.getD 0 0 = c := fun _ => rfl
  simp only [e, g, if_true, Option.bind_some]
  obtain ⟨h1, h2⟩ := count_xy (bl s) h
  unfold Lib.countByte isC
  rw [h1, h2]
  by_cases c : (((bl s).count 114 : Nat) : Int) = ((bl s).count 108 : Nat)
  · rw [if_pos c]
    congr 1
    rw [Bool.eq_iff_iff, Bool.and_eq_true_iff, beq_iff_eq, beq_iff_eq, beq_iff_eq]
    show (((bl s).count 100 : Nat) : Int) = ((bl s).count 117 : Nat) ↔ _
    omega
  · rw [if_neg c]
    congr 1
    symm
    rw [Bool.and_eq_false_iff]
    left
    rw [beq_eq_false_iff_ne]
    omega
theorem implIsClosed_eq (s : ByteArray) : impl_IsClosed.f s = some (isW s && isC s) := by
  unfold impl_IsClosed.f
  rw [isWord_eq]
  simp only [Option.bind_some]
  cases h : isW s
  · rfl
  · rw [if_pos rfl, isClosed_eq s (isW_all h)]
    rfl
theorem specIsClosed_eq (s : ByteArray) (hs : s.size ≤ 9223372036854775807) : Evt (fun k => spec_IsClosed.f k s) (isW s && isC s) := by
  unfold spec_IsClosed.f
  refine (l23Is_eq s hs).bind ?_
  cases h : isW s
  · exact Evt.ite_neg (by decide) Evt.pure
  · refine Evt.ite_pos rfl ((l23End_eq s (by have := isW_size h; omega)).bind ?_)
    exact Evt.pure
end Go.Proofs.YtcgnnfaemjjljaaDoor.Pure
end
section
namespace Go.Proofs.YtcgnnfaemjjljaaDoor.Pure
open Go.RowKit Go.Proofs.YtcgnnfaemjjljaaDoor Go.Proofs.YtcgnnfaemjjljaaDoor.Q Go.Proofs.YtcgnnfaemjjljaaDoorW.PrintWords
set_option linter.unusedVariables false
set_option linter.unusedSimpArgs false
def nb (l : List UInt8) : List Int := l.map (fun b => (b.toNat : Int))
theorem nb_snoc (l : List UInt8) (b : UInt8) : nb l ++ [(b.toNat : Int)] = nb (l ++ [b]) := by simp [nb]
theorem str_nb (l : List UInt8) : strOfNums (nb l) = ⟨l.toArray⟩ := by
  unfold strOfNums nb
  congr 2
  rw [List.map_map]
  conv => rhs; rw [← List.map_id l]
  apply List.map_congr_left
  intro b _
  simp
def backL (l : List UInt8) : List UInt8 := (l.map (turnU 2)).reverse
theorem back_len (l : List UInt8) : (backL l).length = l.length := by simp [backL]
theorem l23Back_loop (s : ByteArray) (hs : s.size ≤ 1000000000) (h : (bl s).all isL = true) : ∀ (n : Nat) (acc : List UInt8), n ≤ s.size → acc.length + n ≤ s.size →
    Evt (fun k => spec_l23Back.l0 k s (nb acc) ((n : Int) - 1)) (⟨(acc ++ backL ((bl s).take n)).toArray⟩ : ByteArray) := by
  intro n
  induction n with
  | zero =>
    intro acc _ _
    refine Evt.step (fun k => rfl) ?_
    simp only [spec_l23Back.l0]
    refine Evt.ite_neg (by omega) ?_
    rw [str_nb]
    simp only [List.take_zero, backL, List.map_nil, List.reverse_nil, List.append_nil]
    exact Evt.pure
  | succ n ih =>
    intro acc hn ha
    have hl : n < (bl s).length := by rw [bl_len]; omega
    have hb : isL (bl s)[n] = true := List.all_eq_true.1 h _ (List.getElem_mem hl)
    have e : ((n + 1 : Nat) : Int) - 1 = (n : Int) := by omega
    rw [e]
    have hi := ih (acc ++ [turnU 2 (bl s)[n]]) (by omega) (by simp; omega)
    have e2 : acc ++ backL ((bl s).take (n + 1)) = acc ++ [turnU 2 (bl s)[n]] ++ backL ((bl s).take n) := by
      rw [List.take_succ_eq_append_getElem hl]
      simp [backL]
    rw [e2]
    rw [← nb_snoc] at hi
    have ew : wrap64 ((n : Int) - 1) = (n : Int) - 1 := w64 (by omega) (by omega)
    have hlen : (nb acc).length < 140737488355328 := by rw [nb, List.length_map]; omega
    refine Evt.step (fun k => rfl) ?_
    simp only [spec_l23Back.l0, bt_bl s n hl, u114, u108, u100, ew]
    refine Evt.ite_pos (by omega) (Evt.ite_pos (by omega) (Evt.ite_pos (by omega) ?_))
    generalize hbb : (bl s)[n] = b at hb hi
    rcases (isL_iff b).1 hb with rfl | rfl | rfl | rfl
    · exact Evt.ite_pos rfl (Evt.ite_pos hlen hi)
    · exact Evt.ite_neg (by decide) (Evt.ite_neg (by decide) (Evt.ite_pos rfl (Evt.ite_pos hlen hi)))
    · exact Evt.ite_neg (by decide) (Evt.ite_pos rfl (Evt.ite_pos hlen hi))
    · exact Evt.ite_neg (by decide) (Evt.ite_neg (by decide) (Evt.ite_neg (by decide) (Evt.ite_pos hlen hi)))
theorem l23Back_eq (s : ByteArray) (hs : s.size ≤ 1000000000) (h : (bl s).all isL = true) : Evt (fun k => spec_l23Back.f k s) (⟨(backL (bl s)).toArray⟩ : ByteArray) := by
  unfold spec_l23Back.f
  have hh := l23Back_loop s hs h s.size [] (Nat.le_refl _) (by simp)
  rw [w64 (by omega) (by omega)]
  rw [List.take_of_length_le (by rw [bl_len]; omega)] at hh
  simpa [nb] using hh
theorem backWord_eq (s : ByteArray) (hs : s.size ≤ 1000000000) (h : (bl s).all isL = true) : impl_backWord.f s = some (⟨(backL (bl s)).toArray⟩ : ByteArray) := by
  unfold impl_backWord.f
  rw [if_pos ⟨hs, h⟩]
  rfl
end Go.Proofs.YtcgnnfaemjjljaaDoor.Pure
end
section
namespace Go.Proofs.YtcgnnfaemjjljaaDoor.Pure
open Go.RowKit Go.Proofs.YtcgnnfaemjjljaaDoor Go.Proofs.YtcgnnfaemjjljaaDoor.Q Go.Proofs.YtcgnnfaemjjljaaDoorW.PrintWords
set_option linter.unusedVariables false
set_option linter.unusedSimpArgs false
theorem bl_append (s t : ByteArray) : bl (s ++ t) = bl s ++ bl t := by
  unfold bl
  simp [ByteArray.data_append]
theorem bl_extract (s : ByteArray) (a b : Nat) : bl (s.extract a b) = ((bl s).drop a).take (b - a) := Lib.extract_data s a b
theorem bl_take (s : ByteArray) (b : Nat) : bl (s.extract 0 b) = (bl s).take b := by
  rw [bl_extract]
  simp
theorem bl_drop (s : ByteArray) (a : Nat) : bl (s.extract a s.size) = (bl s).drop a := by
  rw [bl_extract, List.take_of_length_le]
  rw [List.length_drop, bl_len]
  omega
theorem bl_mk (l : List UInt8) : bl (⟨l.toArray⟩ : ByteArray) = l := rfl
theorem size_bl (s : ByteArray) : s.size = (bl s).length := (bl_len s).symm
def rotL (l : List UInt8) (s : Nat) : List UInt8 := l.drop s ++ l.take s
theorem rot_len (l : List UInt8) (s : Nat) : (rotL l s).length = l.length := by
  unfold rotL
  rw [List.length_append, List.length_drop, List.length_take]
  omega
theorem all_take {l : List UInt8} (h : l.all isL = true) (n : Nat) : (l.take n).all isL = true := List.all_eq_true.2 fun x hx => List.all_eq_true.1 h x (List.mem_of_mem_take hx)
theorem all_drop {l : List UInt8} (h : l.all isL = true) (n : Nat) : (l.drop n).all isL = true := List.all_eq_true.2 fun x hx => List.all_eq_true.1 h x (List.mem_of_mem_drop hx)
theorem all_rot {l : List UInt8} (h : l.all isL = true) (n : Nat) : (rotL l n).all isL = true := by
  unfold rotL
  rw [List.all_append, all_drop h, all_take h]
  rfl
def zeros (a b c : Nat) : Bool := decide (¬ (a = 0 ∧ b = 0) ∧ ¬ (a = 0 ∧ c = 0) ∧ ¬ (b = 0 ∧ c = 0))
def facB (x : List UInt8) (h a b : Nat) : Bool := x.drop h == backL (x.take a) ++ backL ((x.drop a).take b) ++ backL ((x.drop (a + b)).take (h - (a + b)))
theorem facB_parts (x : List UInt8) (h a b : Nat) (hx : x.length = 2 * h) (hab : a + b ≤ h) :
    facB x h a b = ((x.drop h).take a == backL (x.take a) && ((x.drop (h + a)).take b == backL ((x.drop a).take b) && x.drop (h + a + b) == backL ((x.drop (a + b)).take (h - (a + b))))) := by
  unfold facB
  rw [Bool.eq_iff_iff, Bool.and_eq_true_iff, Bool.and_eq_true_iff, beq_iff_eq, beq_iff_eq, beq_iff_eq, beq_iff_eq]
  have la : (backL (x.take a)).length = a := by rw [back_len, List.length_take]; omega
  have lb : (backL ((x.drop a).take b)).length = b := by rw [back_len, List.length_take, List.length_drop]; omega
  have e1 : x.drop h = (x.drop h).take a ++ ((x.drop (h + a)).take b ++ x.drop (h + a + b)) := by
    have := (List.take_append_drop a (x.drop h)).symm
    rw [List.drop_drop] at this
    have h2 := (List.take_append_drop b (x.drop (h + a))).symm
    rw [List.drop_drop] at h2
    rw [← h2]
    exact this
  have l1 : ((x.drop h).take a).length = a := by rw [List.length_take, List.length_drop]; omega
  have l2 : ((x.drop (h + a)).take b).length = b := by rw [List.length_take, List.length_drop]; omega
  constructor
  · intro e
    rw [e1, List.append_assoc] at e
    obtain ⟨f1, f2⟩ := List.append_inj e (by rw [l1, la])
    obtain ⟨f3, f4⟩ := List.append_inj f2 (by rw [l2, lb])
    exact ⟨f1, f3, f4⟩
  · rintro ⟨f1, f2, f3⟩
    rw [e1, f1, f2, f3, List.append_assoc]
theorem closed_even {s : ByteArray} (hw : isW s = true) (hc : isC s = true) : ∃ h, s.size = 2 * h := by
  have hp : ∀ l : List UInt8, l.all isL = true → ∃ h : Int, (l.length : Int) = 2 * h + (sx l + sy l) := by
    intro l
    induction l with
    | nil => intro _; exact ⟨0, by simp [sx, sy]⟩
    | cons b r ih =>
      intro hl
      rw [List.all_cons, Bool.and_eq_true_iff] at hl
      obtain ⟨h, hh⟩ := ih hl.2
      rw [List.length_cons]
      unfold sx sy
      rcases (isL_iff b).1 hl.1 with rfl | rfl | rfl | rfl
      · exact ⟨h, by simp [dxL, dyL]; omega⟩
      · exact ⟨h, by simp [dxL, dyL]; omega⟩
      · exact ⟨h + 1, by simp [dxL, dyL]; omega⟩
      · exact ⟨h + 1, by simp [dxL, dyL]; omega⟩
  obtain ⟨h, hh⟩ := hp (bl s) (isW_all hw)
  unfold isC at hc
  simp only [Bool.and_eq_true, beq_iff_eq] at hc
  rw [hc.1, hc.2, bl_len] at hh
  exact ⟨h.toNat, by omega⟩
theorem ext_sizes (s : ByteArray) (i : Nat) : (s.extract i s.size).size + (s.extract 0 i).size = s.size := by
  rw [size_bl (s.extract i s.size), size_bl (s.extract 0 i), bl_drop, bl_take, List.length_drop, List.length_take, bl_len]
  omega
theorem bl_rot (s : ByteArray) (i : Nat) : bl (s.extract i s.size ++ s.extract 0 i) = rotL (bl s) i := by
  rw [bl_append, bl_drop, bl_take]
  rfl
def Fac (s : ByteArray) (h i a b : Nat) : Bool := decide (a + b ≤ h) && (zeros a b (h - a - b) && facB (rotL (bl s) i) h a b)
theorem specFac_j0 (s : ByteArray) (h i a b : Nat) (hs : s.size = 2 * h) (hsz : s.size ≤ 200) (hall : (bl s).all isL = true) (hi : i ≤ s.size) (hab : a + b ≤ h) (z : Bool) :
    Evt (fun k => spec_l24Factors.j0 k s (i : Int) (a : Int) (b : Int) (s.size : Int) z) (!z && facB (rotL (bl s) i) h a b) := by
  refine Evt.step (fun k => rfl) ?_
  simp only [spec_l24Factors.j0]
  cases z with
  | true => exact Evt.ite_pos rfl Evt.pure
  | false =>
    refine Evt.ite_neg (by decide) ?_
    have hw : wrap64 ((s.size : Int) / 2) = ((h : Nat) : Int) := by rw [w64 (by omega) (by omega)]; omega
    have hw2 : wrap64 ((a : Int) + (b : Int)) = ((a + b : Nat) : Int) := by rw [w64 (by omega) (by omega)]; omega
    rw [hw, hw2]
    simp only [Int.toNat_natCast]
    have hes := ext_sizes s i
    have hx := bl_rot s i
    have hxs : (s.extract i s.size ++ s.extract 0 i).size = s.size := by rw [size_bl, hx, rot_len, bl_len]
    have hxa : (bl (s.extract i s.size ++ s.extract 0 i)).all isL = true := by rw [hx]; exact all_rot hall i
    refine Evt.ite_pos (by omega) (Evt.ite_pos (by omega) (Evt.ite_pos (by omega) (Evt.ite_pos (by omega) ?_)))
    generalize (s.extract i s.size ++ s.extract 0 i) = x at hx hxs hxa
    refine Evt.ite_pos (by omega) (Evt.ite_pos (by omega) (Evt.ite_pos (by omega) ?_))
    have z1 : (x.extract 0 a).size ≤ 200 := by rw [size_bl, bl_take, List.length_take, bl_len]; omega
    have z2 : (x.extract a (a + b)).size ≤ 200 := by rw [size_bl, bl_extract, List.length_take, List.length_drop, bl_len]; omega
    have z3 : (x.extract (a + b) h).size ≤ 200 := by rw [size_bl, bl_extract, List.length_take, List.length_drop, bl_len]; omega
    have b1 := l23Back_eq (x.extract 0 a) (by omega) (by rw [bl_take]; exact all_take hxa a)
    have b2 := l23Back_eq (x.extract a (a + b)) (by omega) (by rw [bl_extract]; exact all_take (all_drop hxa a) _)
    have b3 := l23Back_eq (x.extract (a + b) h) (by omega) (by rw [bl_extract]; exact all_take (all_drop hxa _) _)
    have c1 : (⟨(backL (bl (x.extract 0 a))).toArray⟩ : ByteArray).size ≤ 200 := by rw [size_bl, bl_mk, back_len, bl_len]; exact z1
    have c2 : (⟨(backL (bl (x.extract a (a + b)))).toArray⟩ : ByteArray).size ≤ 200 := by rw [size_bl, bl_mk, back_len, bl_len]; exact z2
    have c3 : (⟨(backL (bl (x.extract (a + b) h))).toArray⟩ : ByteArray).size ≤ 200 := by rw [size_bl, bl_mk, back_len, bl_len]; exact z3
    refine b1.bind (Evt.ite_pos (by omega) (Evt.ite_pos (by omega) (b2.bind (Evt.ite_pos (by omega) (Evt.ite_pos (by omega) (Evt.ite_pos (by omega) (b3.bind (Evt.ite_pos ?_ ?_))))))))
    · rw [size_bl, bl_append, List.length_append, bl_len, bl_len]
      omega
    · refine Evt.const ?_
      rw [toList_bl, toList_bl, bl_append, bl_append]
      show some (bl (x.extract h x.size) == backL (bl (x.extract 0 a)) ++ backL (bl (x.extract a (a + b))) ++ backL (bl (x.extract (a + b) h))) = _
      rw [bl_drop, bl_take, bl_extract, bl_extract, hx, Nat.add_sub_cancel_left]
      rfl
theorem specFac_eq (s : ByteArray) (h i a b : Nat) (hs : s.size = 2 * h) (hsz : s.size ≤ 200) (hall : (bl s).all isL = true) (hi : i < s.size) (ha : a ≤ 200) (hb : b ≤ 200) :
    Evt (fun k => spec_l24Factors.f k s (i : Int) (a : Int) (b : Int)) (Fac s h i a b) := by
  unfold spec_l24Factors.f
  rw [in_eq]
  simp only [Option.bind_some]
  have hd : decide ((0 : Int) ≤ (i : Int) ∧ (i : Int) ≤ wrap64 ((s.size : Int) - 1)) = true := decide_eq_true (by rw [w64 (by omega) (by omega)]; omega)
  rw [hd]
  have hw : wrap64 (wrap64 (wrap64 ((s.size : Int) / 2) - (a : Int)) - (b : Int)) = (h : Int) - a - b := by
    rw [w64 (n := (s.size : Int) / 2) (by omega) (by omega), w64 (n := (s.size : Int) / 2 - a) (by omega) (by omega), w64 (by omega) (by omega)]
    omega
  rw [hw]
  refine Evt.ite_pos rfl (Evt.ite_neg (by omega) (Evt.ite_neg (by omega) ?_))
  unfold Fac
  by_cases hab : a + b ≤ h
  · rw [decide_eq_true hab, Bool.true_and]
    have hj := fun z => specFac_j0 s h i a b hs hsz hall (by omega) hab z
    refine Evt.ite_neg (by omega) ?_
    have hT : ∀ (_ : ¬ (¬ (a = 0 ∧ b = 0) ∧ ¬ (a = 0 ∧ h - a - b = 0) ∧ ¬ (b = 0 ∧ h - a - b = 0))), Evt (fun k => spec_l24Factors.j0 k s (i : Int) (a : Int) (b : Int) (s.size : Int) true) (zeros a b (h - a - b) && facB (rotL (bl s) i) h a b) := by
      intro hz
      rw [show zeros a b (h - a - b) = false from decide_eq_false hz]
      exact hj true
    have hF : ∀ (_ : ¬ (a = 0 ∧ b = 0) ∧ ¬ (a = 0 ∧ h - a - b = 0) ∧ ¬ (b = 0 ∧ h - a - b = 0)), Evt (fun k => spec_l24Factors.j0 k s (i : Int) (a : Int) (b : Int) (s.size : Int) false) (zeros a b (h - a - b) && facB (rotL (bl s) i) h a b) := by
      intro hz
      rw [show zeros a b (h - a - b) = true from decide_eq_true hz]
      exact hj false
    by_cases a0 : a = 0
    · refine Evt.ite_pos (by omega) ?_
      by_cases b0 : b = 0
      · exact Evt.ite_pos (by omega) (hT (by omega))
      · refine Evt.ite_neg (by omega) ?_
        by_cases c0 : (h : Int) - a - b = 0
        · exact Evt.ite_pos c0 (hT (by omega))
        · exact Evt.ite_neg c0 (hF (by omega))
    · refine Evt.ite_neg (by omega) ?_
      by_cases b0 : b = 0
      · refine Evt.ite_pos (by omega) ?_
        by_cases c0 : (h : Int) - a - b = 0
        · rw [show ((h : Int) - a - b == 0) = true from by rw [beq_iff_eq]; exact c0]
          exact hT (by omega)
        · rw [show ((h : Int) - a - b == 0) = false from by rw [beq_eq_false_iff_ne]; exact c0]
          exact hF (by omega)
      · exact Evt.ite_neg (by omega) (hF (by omega))
  · rw [decide_eq_false hab, Bool.false_and]
    refine Evt.ite_pos (by omega) ?_
    refine Evt.step (fun k => rfl) ?_
    simp only [spec_l24Factors.j0]
    exact Evt.ite_pos (by simp) Evt.pure
theorem implFac_tail (x : ByteArray) (h a b : Nat) (hx : x.size = 2 * h) (hsz : x.size ≤ 200) (hall : (bl x).all isL = true) (hab : a + b ≤ h) (z : Nat) (hz : z ≤ 3) (ys : List Int) (hy : ys.length = 3) :
    Evt (fun k => impl_isFactoring.l0 k x (a : Int) (b : Int) (h : Int) (z : Int) ys (ys.length : Int) 3) (decide (z ≤ 1) && facB (bl x) h a b) := by
  refine Evt.step (fun k => rfl) ?_
  simp only [impl_isFactoring.l0]
  refine Evt.ite_neg (by omega) ?_
  have w1 : wrap64 ((h : Int) + (a : Int)) = ((h + a : Nat) : Int) := by rw [w64 (by omega) (by omega)]; omega
  have w2 : wrap64 (((h + a : Nat) : Int) + (b : Int)) = ((h + a + b : Nat) : Int) := by rw [w64 (by omega) (by omega)]; omega
  have w3 : wrap64 ((a : Int) + (b : Int)) = ((a + b : Nat) : Int) := by rw [w64 (by omega) (by omega)]; omega
  rw [w1, w2, w3]
  simp only [Int.toNat_natCast]
  by_cases hz1 : z ≤ 1
  · rw [decide_eq_true hz1, Bool.true_and, facB_parts _ h a b (by rw [bl_len]; exact hx) hab]
    refine Evt.ite_pos (by omega) ?_
    have z1 : (x.extract 0 a).size ≤ 200 := by rw [size_bl, bl_take, List.length_take, bl_len]; omega
    have z2 : (x.extract a (a + b)).size ≤ 200 := by rw [size_bl, bl_extract, List.length_take, List.length_drop, bl_len]; omega
    have z3 : (x.extract (a + b) h).size ≤ 200 := by rw [size_bl, bl_extract, List.length_take, List.length_drop, bl_len]; omega
    have b1 := backWord_eq (x.extract 0 a) (by omega) (by rw [bl_take]; exact all_take hall a)
    have b2 := backWord_eq (x.extract a (a + b)) (by omega) (by rw [bl_extract]; exact all_take (all_drop hall a) _)
    have b3 := backWord_eq (x.extract (a + b) h) (by omega) (by rw [bl_extract]; exact all_take (all_drop hall _) _)
    rw [b1, b2, b3]
    simp only [Option.bind_some, toList_bl]
    have m1 : bl (⟨(backL (bl (x.extract 0 a))).toArray⟩ : ByteArray) = backL ((bl x).take a) := by
      show backL (bl (x.extract 0 a)) = _
      rw [bl_take]
    have m2 : bl (⟨(backL (bl (x.extract a (a + b)))).toArray⟩ : ByteArray) = backL (((bl x).drop a).take b) := by
      show backL (bl (x.extract a (a + b))) = _
      rw [bl_extract, Nat.add_sub_cancel_left]
    have m3 : bl (⟨(backL (bl (x.extract (a + b) h))).toArray⟩ : ByteArray) = backL (((bl x).drop (a + b)).take (h - (a + b))) := by
      show backL (bl (x.extract (a + b) h)) = _
      rw [bl_extract]
    rw [m1, m2, m3]
    simp only [bl_drop]
    simp only [bl_extract, Nat.add_sub_cancel_left]
    refine Evt.ite_pos (by omega) (Evt.ite_pos (by omega) (Evt.ite_pos (by omega) (Evt.ite_pos (by omega) (Evt.ite_pos (by omega) ?_))))
    by_cases p1 : ((bl x).drop h).take a = backL ((bl x).take a)
    · refine Evt.ite_pos p1 ?_
      rw [beq_iff_eq.2 p1, Bool.true_and]
      refine Evt.ite_pos (by omega) (Evt.ite_pos (by omega) (Evt.ite_pos (by omega) (Evt.ite_pos (by omega) (Evt.ite_pos (by omega) ?_))))
      by_cases p2 : ((bl x).drop (h + a)).take b = backL (((bl x).drop a).take b)
      · refine Evt.ite_pos p2 ?_
        rw [beq_iff_eq.2 p2, Bool.true_and]
        exact Evt.ite_pos (by omega) (Evt.ite_pos (by omega) (Evt.ite_pos (by omega) (Evt.ite_pos (by omega) Evt.pure)))
      · refine Evt.ite_neg p2 ?_
        rw [beq_eq_false_iff_ne.2 p2, Bool.false_and]
        exact Evt.pure
    · refine Evt.ite_neg p1 ?_
      rw [beq_eq_false_iff_ne.2 p1, Bool.false_and]
      exact Evt.pure
  · rw [decide_eq_false hz1, Bool.false_and]
    exact Evt.ite_neg (by omega) Evt.pure
theorem implFac_eq (x : ByteArray) (h a b : Nat) (hx : x.size = 2 * h) (hsz : x.size ≤ 200) (hall : (bl x).all isL = true) (hab : a + b ≤ h) :
    Evt (fun k => impl_isFactoring.f k x (a : Int) (b : Int)) (zeros a b (h - a - b) && facB (bl x) h a b) := by
  unfold impl_isFactoring.f
  simp only [Option.bind_some]
  have hw0 : wrap64 ((x.size : Int) / 2) = (h : Int) := by rw [w64 (by omega) (by omega)]; omega
  have hw : wrap64 (wrap64 ((h : Int) - (a : Int)) - (b : Int)) = ((h - a - b : Nat) : Int) := by
    rw [w64 (n := (h : Int) - a) (by omega) (by omega), w64 (by omega) (by omega)]
    omega
  rw [hw0, hw]
  clear hw0 hw
  generalize h - a - b = c
  obtain ⟨ys, hys⟩ : ∃ ys : List Int, ([(a : Int), (b : Int), (c : Int)] : List Int) = ys := ⟨_, rfl⟩
  have hy : ys.length = 3 := by rw [← hys]; rfl
  have r0 : rd ys 0 = (a : Int) := by rw [← hys]; rfl
  have r1 : rd ys 1 = (b : Int) := by rw [← hys]; rfl
  have r2 : rd ys 2 = (c : Int) := by rw [← hys]; rfl
  rw [hys]
  clear hys
  have hz : zeros a b c = decide ((if a = 0 then 1 else 0) + (if b = 0 then 1 else 0) + (if c = 0 then 1 else 0) ≤ 1) := by
    unfold zeros
    refine decide_eq_decide.2 ?_
    split <;> split <;> split <;> omega
  rw [hz]
  clear hz
  have tail := fun z hz => implFac_tail x h a b hx hsz hall hab z hz ys hy
  generalize facB (bl x) h a b = FB at tail ⊢
  have s2 : ∀ z : Nat, z ≤ 2 → Evt (fun k => impl_isFactoring.l0 k x (a : Int) (b : Int) (h : Int) (z : Int) ys (ys.length : Int) 2) (decide (z + (if c = 0 then 1 else 0) ≤ 1) && FB) := by
    intro z hz2
    have z1 : z + 1 ≤ 3 := by omega
    have z2 : z ≤ 3 := by omega
    have w1 : Aside0 (wrap64 ((z : Int) + 1) = ((z + 1 : Nat) : Int)) := ⟨by rw [w64 (by omega) (by omega)]; omega⟩
    refine Evt.step (fun k => rfl) ?_
    simp only [impl_isFactoring.l0, r2]
    rw [show wrap64 ((2 : Int) + 1) = 3 from by rw [w64 (by omega) (by omega)]; rfl]
    refine Evt.ite_pos (by rw [hy]; omega) (Evt.ite_pos (by omega) (Evt.ite_pos (by rw [hy]; omega) ?_))
    by_cases c0 : c = 0
    · refine Evt.ite_pos (by omega) ?_
      rw [if_pos c0, w1.out]
      exact tail (z + 1) z1
    · refine Evt.ite_neg (by omega) ?_
      rw [if_neg c0]
      exact tail z z2
  have s1 : ∀ z : Nat, z ≤ 1 → Evt (fun k => impl_isFactoring.l0 k x (a : Int) (b : Int) (h : Int) (z : Int) ys (ys.length : Int) 1) (decide (z + (if b = 0 then 1 else 0) + (if c = 0 then 1 else 0) ≤ 1) && FB) := by
    intro z hz2
    have z1 : z + 1 ≤ 2 := by omega
    have z2 : z ≤ 2 := by omega
    have w1 : Aside0 (wrap64 ((z : Int) + 1) = ((z + 1 : Nat) : Int)) := ⟨by rw [w64 (by omega) (by omega)]; omega⟩
    refine Evt.step (fun k => rfl) ?_
    simp only [impl_isFactoring.l0, r1]
    rw [show wrap64 ((1 : Int) + 1) = 2 from by rw [w64 (by omega) (by omega)]; rfl]
    refine Evt.ite_pos (by rw [hy]; omega) (Evt.ite_pos (by omega) (Evt.ite_pos (by rw [hy]; omega) ?_))
    by_cases b0 : b = 0
    · refine Evt.ite_pos (by omega) ?_
      rw [if_pos b0, w1.out]
      exact s2 (z + 1) z1
    · refine Evt.ite_neg (by omega) ?_
      rw [if_neg b0]
      exact s2 z z2
  refine Evt.step (fun k => rfl) ?_
  simp only [impl_isFactoring.l0, r0]
  rw [show wrap64 ((0 : Int) + 1) = 1 from by rw [w64 (by omega) (by omega)]; rfl]
  refine Evt.ite_pos (by rw [hy]; omega) (Evt.ite_pos (by omega) (Evt.ite_pos (by rw [hy]; omega) ?_))
  by_cases a0 : a = 0
  · refine Evt.ite_pos (by omega) ?_
    rw [if_pos a0]
    exact s1 1 (by omega)
  · refine Evt.ite_neg (by omega) ?_
    rw [if_neg a0]
    exact s1 0 (by omega)
end Go.Proofs.YtcgnnfaemjjljaaDoor.Pure
end
section
namespace Go.Proofs.YtcgnnfaemjjljaaDoor.Pure
open Go.RowKit Go.Proofs.YtcgnnfaemjjljaaDoor Go.Proofs.YtcgnnfaemjjljaaDoor.Q Go.Proofs.YtcgnnfaemjjljaaDoorW.PrintWords
set_option linter.unusedVariables false
set_option linter.unusedSimpArgs false
def isF (s : ByteArray) (i a b : Int) : Bool := (isW s && isC s) && (decide (0 < s.size) && (decide ((0 ≤ i ∧ i ≤ (s.size : Int) - 1) ∧ 0 ≤ a ∧ 0 ≤ b) && Fac s (s.size / 2) i.toNat a.toNat b.toNat))
theorem specIsFac_eq (s : ByteArray) (i a b : Int) (hs : s.size ≤ 1048576) : Evt (fun k => spec_IsFactoring.f k s i a b) (isF s i a b) := by
  unfold spec_IsFactoring.f
  refine (specIsClosed_eq s (by omega)).bind ?_
  unfold isF
  cases hw : isW s && isC s
  · exact Evt.ite_neg (by decide) Evt.pure
  · rw [Bool.and_eq_true_iff] at hw
    have hsz := isW_size hw.1
    obtain ⟨h, hh⟩ := closed_even hw.1 hw.2
    have e2 : s.size / 2 = h := by omega
    refine Evt.ite_pos rfl ?_
    rw [Bool.true_and]
    by_cases h0 : 0 < s.size
    · refine Evt.ite_pos (by omega) ?_
      rw [decide_eq_true h0, Bool.true_and]
      simp only [in_eq, Option.bind_some]
      by_cases ha : 0 ≤ a ∧ a ≤ 200
      · rw [decide_eq_true ha]
        refine Evt.ite_pos rfl ?_
        by_cases hb : 0 ≤ b ∧ b ≤ 200
        · rw [decide_eq_true hb]
          refine Evt.ite_pos rfl ?_
          obtain ⟨a, rfl⟩ : ∃ n : Nat, a = (n : Int) := ⟨a.toNat, by omega⟩
          obtain ⟨b, rfl⟩ : ∃ n : Nat, b = (n : Int) := ⟨b.toNat, by omega⟩
          by_cases hi : 0 ≤ i ∧ i ≤ (s.size : Int) - 1
          · obtain ⟨i, rfl⟩ : ∃ n : Nat, i = (n : Int) := ⟨i.toNat, by omega⟩
            rw [decide_eq_true ⟨hi, by omega, by omega⟩, Bool.true_and]
            simp only [Int.toNat_natCast]
            rw [e2]
            exact (specFac_eq s h i a b hh hsz (isW_all hw.1) (by omega) (by omega) (by omega)).bind Evt.pure
          · rw [decide_eq_false (fun c => hi c.1), Bool.false_and]
            refine Evt.bind (a := false) ?_ Evt.pure
            unfold spec_l24Factors.f
            rw [in_eq]
            simp only [Option.bind_some]
            rw [decide_eq_false (by rw [w64 (by omega) (by omega)]; exact hi)]
            refine Evt.ite_neg (by decide) ?_
            refine Evt.step (fun k => rfl) ?_
            simp only [spec_l24Factors.j0]
            exact Evt.ite_pos (by simp) Evt.pure
        · rw [decide_eq_false hb]
          refine Evt.ite_neg (by decide) ?_
          by_cases hb0 : 0 ≤ b
          · have : Fac s (s.size / 2) i.toNat a.toNat b.toNat = false := by
              unfold Fac
              rw [decide_eq_false (by omega), Bool.false_and]
            rw [this, Bool.and_false]
            exact Evt.pure
          · rw [decide_eq_false (by omega), Bool.false_and]
            exact Evt.pure
      · rw [decide_eq_false ha]
        refine Evt.ite_neg (by decide) ?_
        by_cases ha0 : 0 ≤ a
        · have : Fac s (s.size / 2) i.toNat a.toNat b.toNat = false := by
            unfold Fac
            rw [decide_eq_false (by omega), Bool.false_and]
          rw [this, Bool.and_false]
          exact Evt.pure
        · rw [decide_eq_false (by omega), Bool.false_and]
          exact Evt.pure
    · refine Evt.ite_neg (by omega) ?_
      rw [decide_eq_false h0, Bool.false_and]
      exact Evt.pure
theorem implIsFac_eq (s : ByteArray) (i a b : Int) (hs : s.size ≤ 1048576) : Evt (fun k => impl_IsFactoring.f k s i a b) (isF s i a b) := by
  unfold impl_IsFactoring.f
  rw [implIsClosed_eq]
  simp only [Option.bind_some]
  have hj : ∀ r : Bool, r = false → Evt (fun k => impl_IsFactoring.j0 k s i a b true) r := by
    intro r hr
    rw [hr]
    refine Evt.step (fun k => rfl) ?_
    simp only [impl_IsFactoring.j0]
    exact Evt.ite_pos (by simp) Evt.pure
  unfold isF
  cases hw : isW s && isC s
  · exact Evt.ite_neg (by decide) (hj _ rfl)
  · rw [Bool.and_eq_true_iff] at hw
    have hsz := isW_size hw.1
    obtain ⟨h, hh⟩ := closed_even hw.1 hw.2
    have e2 : s.size / 2 = h := by omega
    have hall := isW_all hw.1
    refine Evt.ite_pos (by simp) ?_
    rw [Bool.true_and, within_eq]
    simp only [Option.bind_some]
    rw [w64 (n := (s.size : Int) - 1) (by omega) (by omega)]
    by_cases hi : 0 ≤ i ∧ i ≤ (s.size : Int) - 1
    · rw [decide_eq_true hi]
      obtain ⟨i, rfl⟩ : ∃ n : Nat, i = (n : Int) := ⟨i.toNat, by omega⟩
      refine Evt.step (fun k => rfl) ?_
      simp only [impl_IsFactoring.j0, within_eq, Option.bind_some]
      refine Evt.ite_neg (by decide) ?_
      have hw0 : wrap64 ((s.size : Int) / 2) = (h : Int) := by rw [w64 (by omega) (by omega)]; omega
      rw [hw0, decide_eq_true (by omega : 0 < s.size), Bool.true_and]
      by_cases ha : 0 ≤ a ∧ a ≤ (h : Int)
      · rw [decide_eq_true ha]
        refine Evt.ite_pos rfl ?_
        obtain ⟨a, rfl⟩ : ∃ n : Nat, a = (n : Int) := ⟨a.toNat, by omega⟩
        rw [w64 (n := (h : Int) - a) (by omega) (by omega)]
        by_cases hb : 0 ≤ b ∧ b ≤ (h : Int) - a
        · rw [decide_eq_true hb]
          obtain ⟨b, rfl⟩ : ∃ n : Nat, b = (n : Int) := ⟨b.toNat, by omega⟩
          have hes := ext_sizes s i
          have hx := bl_rot s i
          have hxs : (s.extract i s.size ++ s.extract 0 i).size = s.size := by rw [size_bl, hx, rot_len, bl_len]
          rw [decide_eq_true ⟨hi, by omega, by omega⟩, Bool.true_and]
          simp only [Int.toNat_natCast]
          refine Evt.ite_pos (by simp) (Evt.ite_pos (by omega) (Evt.ite_pos (by omega) (Evt.ite_pos (by omega) ?_)))
          have hf := implFac_eq (s.extract i s.size ++ s.extract 0 i) h a b (by omega) (by omega) (by rw [hx]; exact all_rot hall i) (by omega)
          rw [hx] at hf
          unfold Fac
          rw [e2, decide_eq_true (by omega : a + b ≤ h), Bool.true_and]
          exact hf.bind Evt.pure
        · rw [decide_eq_false hb]
          refine Evt.ite_neg (by decide) ?_
          by_cases hb0 : 0 ≤ b
          · have : Fac s (s.size / 2) ((i : Int)).toNat ((a : Int)).toNat b.toNat = false := by
              unfold Fac
              rw [decide_eq_false (by omega), Bool.false_and]
            rw [this, Bool.and_false]
            exact Evt.pure
          · rw [decide_eq_false (by omega), Bool.false_and]
            exact Evt.pure
      · rw [decide_eq_false ha]
        refine Evt.ite_neg (by decide) ?_
        by_cases ha0 : 0 ≤ a
        · by_cases hb0 : 0 ≤ b
          · have : Fac s (s.size / 2) ((i : Int)).toNat a.toNat b.toNat = false := by
              unfold Fac
              rw [decide_eq_false (by omega), Bool.false_and]
            rw [this, Bool.and_false]
            exact Evt.pure
          · rw [decide_eq_false (by omega), Bool.false_and]
            exact Evt.pure
        · rw [decide_eq_false (by omega), Bool.false_and]
          exact Evt.pure
    · rw [decide_eq_false hi]
      have : decide ((0 ≤ i ∧ i ≤ (s.size : Int) - 1) ∧ 0 ≤ a ∧ 0 ≤ b) = false := decide_eq_false (fun c => hi c.1)
      rw [this, Bool.false_and, Bool.and_false]
      exact hj _ rfl
theorem rot_take (s : ByteArray) (h i a b : Nat) (hf : Fac s h i a b = true) (hh : s.size = 2 * h) : ((rotL (bl s) i).drop h).take a = backL ((rotL (bl s) i).take a) := by
  unfold Fac at hf
  simp only [Bool.and_eq_true, decide_eq_true_eq] at hf
  have := facB_parts (rotL (bl s) i) h a b (by rw [rot_len, bl_len]; exact hh) hf.1
  rw [hf.2.2] at this
  have h2 := (Bool.and_eq_true_iff.mp this.symm).1
  exact beq_iff_eq.mp h2
theorem find_both (s : ByteArray) (h : Nat) (hh : s.size = 2 * h) (hsz : s.size ≤ 200) (hall : (bl s).all isL = true) : ∀ d i : Nat, i + d = s.size →
    Both (fun k => spec_FindFactoring.l0 k s (s.size : Int) (i : Int)) (fun k => impl_FindFactoring.l0 k s (h : Int) (s.size : Int) (i : Int)) := by
  intro d
  induction d with
  | zero =>
    intro i hi
    refine Both.stepl (fun k => rfl) (Both.stepr (fun k => rfl) ?_)
    simp only [spec_FindFactoring.l0, impl_FindFactoring.l0]
    exact Both.nl (by omega) (Both.nr (by omega) Both.pure)
  | succ d ih =>
    intro i hi
    have hw0 : Aside0 (wrap64 ((s.size : Int) / 2) = (h : Int)) := ⟨by rw [w64 (by omega) (by omega)]; omega⟩
    have hws : Aside0 (wrap64 ((i : Int) + 1) = ((i + 1 : Nat) : Int)) := ⟨by rw [w64 (by omega) (by omega)]; omega⟩
    have hnext := ih (i + 1) (by omega)
    have hes := ext_sizes s i
    have hx := bl_rot s i
    have hxs : (s.extract i s.size ++ s.extract 0 i).size = s.size := by rw [size_bl, hx, rot_len, bl_len]
    have hxa : (bl (s.extract i s.size ++ s.extract 0 i)).all isL = true := by rw [hx]; exact all_rot hall i
    refine Both.stepl (fun k => rfl) (Both.stepr (fun k => rfl) ?_)
    simp only [spec_FindFactoring.l0, impl_FindFactoring.l0]
    refine Both.pl (by omega) (Both.pr (by omega) (Both.pr (by omega) (Both.pr (by omega) ?_)))
    simp only [Int.toNat_natCast]
    refine Both.pr (by omega) ?_
    generalize hxx : (s.extract i s.size ++ s.extract 0 i) = x at hx hxs hxa
    -- the second number
    have inner : ∀ (a : Nat) (_ : a ≤ h) (A : Both (fun k => spec_FindFactoring.l1 k s (s.size : Int) (i : Int) ((a + 1 : Nat) : Int)) (fun k => impl_FindFactoring.l1 k s (h : Int) (i : Int) x ((a + 1 : Nat) : Int) (s.size : Int) (i : Int))) (e b : Nat), a + b + e = h + 1 →
        Both (fun k => spec_FindFactoring.l2 k s (s.size : Int) (i : Int) (a : Int) (b : Int)) (fun k => impl_FindFactoring.l2 k s (h : Int) (i : Int) x (a : Int) (b : Int) (s.size : Int) (i : Int)) := by
      intro a ha A e
      have hwa : Aside0 (wrap64 ((a : Int) + 1) = ((a + 1 : Nat) : Int)) := ⟨by rw [w64 (by omega) (by omega)]; omega⟩
      induction e with
      | zero =>
        intro b hb
        have hab : Aside0 (wrap64 ((a : Int) + (b : Int)) = ((a + b : Nat) : Int)) := ⟨by rw [w64 (by omega) (by omega)]; omega⟩
        refine Both.stepl (fun k => rfl) (Both.stepr (fun k => rfl) ?_)
        simp only [spec_FindFactoring.l2, impl_FindFactoring.l2]
        rw [hab.out, hw0.out, hwa.out]
        exact Both.nl (by omega) (Both.nr (by omega) A)
      | succ e ih2 =>
        intro b hb
        have hab : Aside0 (wrap64 ((a : Int) + (b : Int)) = ((a + b : Nat) : Int)) := ⟨by rw [w64 (by omega) (by omega)]; omega⟩
        have hwb : Aside0 (wrap64 ((b : Int) + 1) = ((b + 1 : Nat) : Int)) := ⟨by rw [w64 (by omega) (by omega)]; omega⟩
        refine Both.stepl (fun k => rfl) (Both.stepr (fun k => rfl) ?_)
        simp only [spec_FindFactoring.l2, impl_FindFactoring.l2]
        rw [hab.out, hw0.out, hwb.out]
        refine Both.pl (by omega) (Both.pr (by omega) ?_)
        have f1 := specFac_eq s h i a b hh hsz hall (by omega) (by omega) (by omega)
        have f2 := implFac_eq x h a b (by omega) (by omega) hxa (by omega)
        have e1 : Fac s h i a b = (zeros a b (h - a - b) && facB (bl x) h a b) := by
          unfold Fac
          rw [decide_eq_true (by omega : a + b ≤ h), Bool.true_and, hx]
        rw [← e1] at f2
        refine Both.bindl f1 (Both.bindr f2 ?_)
        cases Fac s h i a b
        · simp only [Bool.false_eq_true, if_false]
          exact ih2 (b + 1) (by omega)
        · simp only [if_true]
          exact Both.pure
    have outer : ∀ (e a : Nat), a + e = h + 1 → Both (fun k => spec_FindFactoring.l1 k s (s.size : Int) (i : Int) (a : Int)) (fun k => impl_FindFactoring.l1 k s (h : Int) (i : Int) x (a : Int) (s.size : Int) (i : Int)) := by
      intro e
      induction e with
      | zero =>
        intro a ha
        refine Both.stepl (fun k => rfl) (Both.stepr (fun k => rfl) ?_)
        simp only [spec_FindFactoring.l1, impl_FindFactoring.l1]
        rw [hw0.out, hws.out]
        exact Both.nl (by omega) (Both.nr (by omega) hnext)
      | succ e ih3 =>
        intro a ha
        have A := ih3 (a + 1) (by omega)
        have hha : Aside0 (wrap64 ((h : Int) + (a : Int)) = ((h + a : Nat) : Int)) := ⟨by rw [w64 (by omega) (by omega)]; omega⟩
        have hwa : Aside0 (wrap64 ((a : Int) + 1) = ((a + 1 : Nat) : Int)) := ⟨by rw [w64 (by omega) (by omega)]; omega⟩
        have hin := inner a (by omega) A (h + 1 - a) 0 (by omega)
        have z1 : (x.extract 0 a).size ≤ 200 := by rw [size_bl, bl_take, List.length_take, bl_len]; omega
        have b1 := backWord_eq (x.extract 0 a) (by omega) (by rw [bl_take]; exact all_take hxa a)
        refine Both.stepl (fun k => rfl) (Both.stepr (fun k => rfl) ?_)
        simp only [spec_FindFactoring.l1, impl_FindFactoring.l1]
        rw [hw0.out, hha.out, hwa.out]
        refine Both.pl (by omega) (Both.pr (by omega) (Both.pr (by omega) (Both.pr (by omega) (Both.pr (by omega) (Both.pr (by omega) (Both.pr (by omega) ?_))))))
        simp only [Int.toNat_natCast]
        rw [b1]
        simp only [Option.bind_some, toList_bl]
        have m1 : bl (⟨(backL (bl (x.extract 0 a))).toArray⟩ : ByteArray) = backL ((bl x).take a) := by
          show backL (bl (x.extract 0 a)) = _
          rw [bl_take]
        rw [m1]
        simp only [bl_extract, Nat.add_sub_cancel_left]
        by_cases p : ((bl x).drop h).take a = backL ((bl x).take a)
        · exact Both.pr p hin
        · refine Both.nr p ?_
          -- the reference goes through all of the second numbers
          have miss : ∀ (e b : Nat), a + b + e = h + 1 → Both (fun k => spec_FindFactoring.l2 k s (s.size : Int) (i : Int) (a : Int) (b : Int)) (fun k => impl_FindFactoring.l1 k s (h : Int) (i : Int) x ((a + 1 : Nat) : Int) (s.size : Int) (i : Int)) := by
            intro e
            induction e with
            | zero =>
              intro b hb
              have hab : Aside0 (wrap64 ((a : Int) + (b : Int)) = ((a + b : Nat) : Int)) := ⟨by rw [w64 (by omega) (by omega)]; omega⟩
              refine Both.stepl (fun k => rfl) ?_
              simp only [spec_FindFactoring.l2]
              rw [hab.out, hw0.out, hwa.out]
              exact Both.nl (by omega) A
            | succ e ih4 =>
              intro b hb
              have hab : Aside0 (wrap64 ((a : Int) + (b : Int)) = ((a + b : Nat) : Int)) := ⟨by rw [w64 (by omega) (by omega)]; omega⟩
              have hwb : Aside0 (wrap64 ((b : Int) + 1) = ((b + 1 : Nat) : Int)) := ⟨by rw [w64 (by omega) (by omega)]; omega⟩
              refine Both.stepl (fun k => rfl) ?_
              simp only [spec_FindFactoring.l2]
              rw [hab.out, hw0.out, hwb.out]
              refine Both.pl (by omega) ?_
              have f1 := specFac_eq s h i a b hh hsz hall (by omega) (by omega) (by omega)
              have e1 : Fac s h i a b = false := by
                cases hf : Fac s h i a b
                · rfl
                · exact absurd (by rw [hx]; exact rot_take s h i a b hf hh) p
              rw [e1] at f1
              refine Both.bindl f1 ?_
              simp only [Bool.false_eq_true, if_false]
              exact ih4 (b + 1) (by omega)
          exact miss (h + 1 - a) 0 (by omega)
    exact outer (h + 1) 0 (by omega)
theorem findFac_both (s : ByteArray) (hs : s.size ≤ 1048576) : Both (fun k => spec_FindFactoring.f k s) (fun k => impl_FindFactoring.f k s) := by
  unfold spec_FindFactoring.f impl_FindFactoring.f
  rw [isWord_eq]
  simp only [Option.bind_some]
  refine Both.bindl (l23Is_eq s (by omega)) ?_
  cases hw : isW s
  · exact Both.pure
  · simp only [if_true, isClosed_eq s (isW_all hw), Option.bind_some]
    refine Both.bindl (specIsClosed_eq s (by omega)) ?_
    have hsz := isW_size hw
    have hj : Both (fun k => spec_FindFactoring.j0 k s true) (fun k => impl_FindFactoring.j0 k s true) := by
      refine Both.stepl (fun k => rfl) (Both.stepr (fun k => rfl) ?_)
      simp only [spec_FindFactoring.j0, impl_FindFactoring.j0, if_true]
      exact Both.pure
    rw [hw]
    cases hc : isC s
    · exact hj
    · simp only [Bool.and_self, if_true]
      obtain ⟨h, hh⟩ := closed_even hw hc
      have hw0 : Aside0 (wrap64 ((s.size : Int) / 2) = (h : Int)) := ⟨by rw [w64 (by omega) (by omega)]; omega⟩
      by_cases h0 : s.size = 0
      · have e1 : ((s.size : Int) == 0) = true := by rw [beq_iff_eq]; omega
        have e2 : (s.toList == ([] : List UInt8)) = true := by
          rw [beq_iff_eq, toList_bl]
          exact List.length_eq_zero_iff.1 (by rw [bl_len]; exact h0)
        rw [e1, e2]
        exact hj
      · have e1 : ((s.size : Int) == 0) = false := by rw [beq_eq_false_iff_ne]; omega
        have e2 : (s.toList == ([] : List UInt8)) = false := by
          rw [beq_eq_false_iff_ne, toList_bl]
          intro e
          exact h0 (by rw [← bl_len, e]; rfl)
        rw [e1, e2]
        refine Both.stepl (fun k => rfl) (Both.stepr (fun k => rfl) ?_)
        simp only [spec_FindFactoring.j0, impl_FindFactoring.j0, Bool.false_eq_true, if_false]
        rw [hw0.out]
        exact find_both s h hh hsz (isW_all hw) s.size 0 (by omega)
end Go.Proofs.YtcgnnfaemjjljaaDoor.Pure
end
section
namespace Go.Proofs.YtcgnnfaemjjljaaDoor.Pure
open Go.RowKit Go.Proofs.YtcgnnfaemjjljaaDoor Go.Proofs.YtcgnnfaemjjljaaDoor.Q Go.Proofs.YtcgnnfaemjjljaaDoorW.PrintWords
set_option linter.unusedVariables false
set_option linter.unusedSimpArgs false
def BothQ {α : Type} (Q : α → Prop) (g h : Nat → Option α) : Prop := ∃ r, Evt g r ∧ Evt h r ∧ Q r
section
variable {α : Type} {Q : α → Prop}
theorem BothQ.stepl {g g' h : Nat → Option α} (e : ∀ k, g (k + 1) = g' k) (b : BothQ Q g' h) : BothQ Q g h := by
  obtain ⟨r, a, b, q⟩ := b
  exact ⟨r, a.step e, b, q⟩
theorem BothQ.stepr {g h h' : Nat → Option α} (e : ∀ k, h (k + 1) = h' k) (b : BothQ Q g h') : BothQ Q g h := by
  obtain ⟨r, a, b, q⟩ := b
  exact ⟨r, a, b.step e, q⟩
theorem BothQ.bindl {β : Type} {g : Nat → Option β} {f : Nat → β → Option α} {h : Nat → Option α} {x : β} (e : Evt g x) (b : BothQ Q (fun k => f k x) h) : BothQ Q (fun k => (g k).bind (f k)) h := by
  obtain ⟨r, a, b, q⟩ := b
  exact ⟨r, e.bind a, b, q⟩
theorem BothQ.bindr {β : Type} {g : Nat → Option β} {f : Nat → β → Option α} {h : Nat → Option α} {x : β} (e : Evt g x) (b : BothQ Q h (fun k => f k x)) : BothQ Q h (fun k => (g k).bind (f k)) := by
  obtain ⟨r, a, b, q⟩ := b
  exact ⟨r, a, e.bind b, q⟩
theorem BothQ.pure {r : α} (q : Q r) : BothQ Q (fun _ => some r) (fun _ => some r) := ⟨r, Evt.pure, Evt.pure, q⟩
theorem BothQ.pl {c : Prop} [Decidable c] {g g' h : Nat → Option α} (hc : c) (b : BothQ Q g h) : BothQ Q (fun k => if c then g k else g' k) h := by
  obtain ⟨r, a, b, q⟩ := b
  exact ⟨r, a.of_eq (fun _ => if_pos hc), b, q⟩
theorem BothQ.nl {c : Prop} [Decidable c] {g g' h : Nat → Option α} (hc : ¬ c) (b : BothQ Q g' h) : BothQ Q (fun k => if c then g k else g' k) h := by
  obtain ⟨r, a, b, q⟩ := b
  exact ⟨r, a.of_eq (fun _ => if_neg hc), b, q⟩
theorem BothQ.pr {c : Prop} [Decidable c] {g h h' : Nat → Option α} (hc : c) (b : BothQ Q g h) : BothQ Q g (fun k => if c then h k else h' k) := by
  obtain ⟨r, a, b, q⟩ := b
  exact ⟨r, a, b.of_eq (fun _ => if_pos hc), q⟩
theorem BothQ.nr {c : Prop} [Decidable c] {g h h' : Nat → Option α} (hc : ¬ c) (b : BothQ Q g h') : BothQ Q g (fun k => if c then h k else h' k) := by
  obtain ⟨r, a, b, q⟩ := b
  exact ⟨r, a, b.of_eq (fun _ => if_neg hc), q⟩
end
def Found (s : ByteArray) (r : Int × Int × Int × Int) : Prop := r.2.2.2 = 0 → (isW s = true ∧ isC s = true) ∧ ∃ h i a b : Nat, r.1 = (i : Int) ∧ r.2.1 = (a : Int) ∧ r.2.2.1 = (b : Int) ∧ s.size = 2 * h ∧ i < s.size ∧ Fac s h i a b = true
theorem find_bothQ (s : ByteArray) (hWC : isW s = true ∧ isC s = true) (h : Nat) (hh : s.size = 2 * h) (hsz : s.size ≤ 200) (hall : (bl s).all isL = true) : ∀ d i : Nat, i + d = s.size →
    BothQ (Found s) (fun k => spec_FindFactoring.l0 k s (s.size : Int) (i : Int)) (fun k => impl_FindFactoring.l0 k s (h : Int) (s.size : Int) (i : Int)) := by
  intro d
  induction d with
  | zero =>
    intro i hi
    refine BothQ.stepl (fun k => rfl) (BothQ.stepr (fun k => rfl) ?_)
    simp only [spec_FindFactoring.l0, impl_FindFactoring.l0]
    exact BothQ.nl (by omega) (BothQ.nr (by omega) (BothQ.pure (fun h => absurd h (by decide))))
  | succ d ih =>
    intro i hi
    have hw0 : Aside0 (wrap64 ((s.size : Int) / 2) = (h : Int)) := ⟨by rw [w64 (by omega) (by omega)]; omega⟩
    have hws : Aside0 (wrap64 ((i : Int) + 1) = ((i + 1 : Nat) : Int)) := ⟨by rw [w64 (by omega) (by omega)]; omega⟩
    have hnext := ih (i + 1) (by omega)
    have hes := ext_sizes s i
    have hx := bl_rot s i
    have hxs : (s.extract i s.size ++ s.extract 0 i).size = s.size := by rw [size_bl, hx, rot_len, bl_len]
    have hxa : (bl (s.extract i s.size ++ s.extract 0 i)).all isL = true := by rw [hx]; exact all_rot hall i
    refine BothQ.stepl (fun k => rfl) (BothQ.stepr (fun k => rfl) ?_)
    simp only [spec_FindFactoring.l0, impl_FindFactoring.l0]
    refine BothQ.pl (by omega) (BothQ.pr (by omega) (BothQ.pr (by omega) (BothQ.pr (by omega) ?_)))
    simp only [Int.toNat_natCast]
    refine BothQ.pr (by omega) ?_
    generalize hxx : (s.extract i s.size ++ s.extract 0 i) = x at hx hxs hxa
    -- the second number
    have inner : ∀ (a : Nat) (_ : a ≤ h) (A : BothQ (Found s) (fun k => spec_FindFactoring.l1 k s (s.size : Int) (i : Int) ((a + 1 : Nat) : Int)) (fun k => impl_FindFactoring.l1 k s (h : Int) (i : Int) x ((a + 1 : Nat) : Int) (s.size : Int) (i : Int))) (e b : Nat), a + b + e = h + 1 →
        BothQ (Found s) (fun k => spec_FindFactoring.l2 k s (s.size : Int) (i : Int) (a : Int) (b : Int)) (fun k => impl_FindFactoring.l2 k s (h : Int) (i : Int) x (a : Int) (b : Int) (s.size : Int) (i : Int)) := by
      intro a ha A e
      have hwa : Aside0 (wrap64 ((a : Int) + 1) = ((a + 1 : Nat) : Int)) := ⟨by rw [w64 (by omega) (by omega)]; omega⟩
      induction e with
      | zero =>
        intro b hb
        have hab : Aside0 (wrap64 ((a : Int) + (b : Int)) = ((a + b : Nat) : Int)) := ⟨by rw [w64 (by omega) (by omega)]; omega⟩
        refine BothQ.stepl (fun k => rfl) (BothQ.stepr (fun k => rfl) ?_)
        simp only [spec_FindFactoring.l2, impl_FindFactoring.l2]
        rw [hab.out, hw0.out, hwa.out]
        exact BothQ.nl (by omega) (BothQ.nr (by omega) A)
      | succ e ih2 =>
        intro b hb
        have hab : Aside0 (wrap64 ((a : Int) + (b : Int)) = ((a + b : Nat) : Int)) := ⟨by rw [w64 (by omega) (by omega)]; omega⟩
        have hwb : Aside0 (wrap64 ((b : Int) + 1) = ((b + 1 : Nat) : Int)) := ⟨by rw [w64 (by omega) (by omega)]; omega⟩
        refine BothQ.stepl (fun k => rfl) (BothQ.stepr (fun k => rfl) ?_)
        simp only [spec_FindFactoring.l2, impl_FindFactoring.l2]
        rw [hab.out, hw0.out, hwb.out]
        refine BothQ.pl (by omega) (BothQ.pr (by omega) ?_)
        have f1 := specFac_eq s h i a b hh hsz hall (by omega) (by omega) (by omega)
        have f2 := implFac_eq x h a b (by omega) (by omega) hxa (by omega)
        have e1 : Fac s h i a b = (zeros a b (h - a - b) && facB (bl x) h a b) := by
          unfold Fac
          rw [decide_eq_true (by omega : a + b ≤ h), Bool.true_and, hx]
        rw [← e1] at f2
        refine BothQ.bindl f1 (BothQ.bindr f2 ?_)
        cases hF : Fac s h i a b
        · simp only [Bool.false_eq_true, if_false]
          exact ih2 (b + 1) (by omega)
        · simp only [if_true]
          exact BothQ.pure (fun _ => ⟨hWC, h, i, a, b, rfl, rfl, rfl, hh, by omega, hF⟩)
    have outer : ∀ (e a : Nat), a + e = h + 1 → BothQ (Found s) (fun k => spec_FindFactoring.l1 k s (s.size : Int) (i : Int) (a : Int)) (fun k => impl_FindFactoring.l1 k s (h : Int) (i : Int) x (a : Int) (s.size : Int) (i : Int)) := by
      intro e
      induction e with
      | zero =>
        intro a ha
        refine BothQ.stepl (fun k => rfl) (BothQ.stepr (fun k => rfl) ?_)
        simp only [spec_FindFactoring.l1, impl_FindFactoring.l1]
        rw [hw0.out, hws.out]
        exact BothQ.nl (by omega) (BothQ.nr (by omega) hnext)
      | succ e ih3 =>
        intro a ha
        have A := ih3 (a + 1) (by omega)
        have hha : Aside0 (wrap64 ((h : Int) + (a : Int)) = ((h + a : Nat) : Int)) := ⟨by rw [w64 (by omega) (by omega)]; omega⟩
        have hwa : Aside0 (wrap64 ((a : Int) + 1) = ((a + 1 : Nat) : Int)) := ⟨by rw [w64 (by omega) (by omega)]; omega⟩
        have hin := inner a (by omega) A (h + 1 - a) 0 (by omega)
        have z1 : (x.extract 0 a).size ≤ 200 := by rw [size_bl, bl_take, List.length_take, bl_len]; omega
        have b1 := backWord_eq (x.extract 0 a) (by omega) (by rw [bl_take]; exact all_take hxa a)
        refine BothQ.stepl (fun k => rfl) (BothQ.stepr (fun k => rfl) ?_)
        simp only [spec_FindFactoring.l1, impl_FindFactoring.l1]
        rw [hw0.out, hha.out, hwa.out]
        refine BothQ.pl (by omega) (BothQ.pr (by omega) (BothQ.pr (by omega) (BothQ.pr (by omega) (BothQ.pr (by omega) (BothQ.pr (by omega) (BothQ.pr (by omega) ?_))))))
        simp only [Int.toNat_natCast]
        rw [b1]
        simp only [Option.bind_some, toList_bl]
        have m1 : bl (⟨(backL (bl (x.extract 0 a))).toArray⟩ : ByteArray) = backL ((bl x).take a) := by
          show backL (bl (x.extract 0 a)) = _
          rw [bl_take]
        rw [m1]
        simp only [bl_extract, Nat.add_sub_cancel_left]
        by_cases p : ((bl x).drop h).take a = backL ((bl x).take a)
        · exact BothQ.pr p hin
        · refine BothQ.nr p ?_
          -- the reference goes through all of the second numbers
          have miss : ∀ (e b : Nat), a + b + e = h + 1 → BothQ (Found s) (fun k => spec_FindFactoring.l2 k s (s.size : Int) (i : Int) (a : Int) (b : Int)) (fun k => impl_FindFactoring.l1 k s (h : Int) (i : Int) x ((a + 1 : Nat) : Int) (s.size : Int) (i : Int)) := by
            intro e
            induction e with
            | zero =>
              intro b hb
              have hab : Aside0 (wrap64 ((a : Int) + (b : Int)) = ((a + b : Nat) : Int)) := ⟨by rw [w64 (by omega) (by omega)]; omega⟩
              refine BothQ.stepl (fun k => rfl) ?_
              simp only [spec_FindFactoring.l2]
              rw [hab.out, hw0.out, hwa.out]
              exact BothQ.nl (by omega) A
            | succ e ih4 =>
              intro b hb
              have hab : Aside0 (wrap64 ((a : Int) + (b : Int)) = ((a + b : Nat) : Int)) := ⟨by rw [w64 (by omega) (by omega)]; omega⟩
              have hwb : Aside0 (wrap64 ((b : Int) + 1) = ((b + 1 : Nat) : Int)) := ⟨by rw [w64 (by omega) (by omega)]; omega⟩
              refine BothQ.stepl (fun k => rfl) ?_
              simp only [spec_FindFactoring.l2]
              rw [hab.out, hw0.out, hwb.out]
              refine BothQ.pl (by omega) ?_
              have f1 := specFac_eq s h i a b hh hsz hall (by omega) (by omega) (by omega)
              have e1 : Fac s h i a b = false := by
                cases hf : Fac s h i a b
                · rfl
                · exact absurd (by rw [hx]; exact rot_take s h i a b hf hh) p
              rw [e1] at f1
              refine BothQ.bindl f1 ?_
              simp only [Bool.false_eq_true, if_false]
              exact ih4 (b + 1) (by omega)
          exact miss (h + 1 - a) 0 (by omega)
    exact outer (h + 1) 0 (by omega)
theorem findFac_bothQ (s : ByteArray) (hs : s.size ≤ 1048576) : BothQ (Found s) (fun k => spec_FindFactoring.f k s) (fun k => impl_FindFactoring.f k s) := by
  unfold spec_FindFactoring.f impl_FindFactoring.f
  rw [isWord_eq]
  simp only [Option.bind_some]
  refine BothQ.bindl (l23Is_eq s (by omega)) ?_
  cases hw : isW s
  · exact BothQ.pure (fun h => absurd h (by decide))
  · simp only [if_true, isClosed_eq s (isW_all hw), Option.bind_some]
    refine BothQ.bindl (specIsClosed_eq s (by omega)) ?_
    have hsz := isW_size hw
    have hj : BothQ (Found s) (fun k => spec_FindFactoring.j0 k s true) (fun k => impl_FindFactoring.j0 k s true) := by
      refine BothQ.stepl (fun k => rfl) (BothQ.stepr (fun k => rfl) ?_)
      simp only [spec_FindFactoring.j0, impl_FindFactoring.j0, if_true]
      exact BothQ.pure (fun h => absurd h (by decide))
    rw [hw]
    cases hc : isC s
    · exact hj
    · simp only [Bool.and_self, if_true]
      obtain ⟨h, hh⟩ := closed_even hw hc
      have hw0 : Aside0 (wrap64 ((s.size : Int) / 2) = (h : Int)) := ⟨by rw [w64 (by omega) (by omega)]; omega⟩
      by_cases h0 : s.size = 0
      · have e1 : ((s.size : Int) == 0) = true := by rw [beq_iff_eq]; omega
        have e2 : (s.toList == ([] : List UInt8)) = true := by
          rw [beq_iff_eq, toList_bl]
          exact List.length_eq_zero_iff.1 (by rw [bl_len]; exact h0)
        rw [e1, e2]
        exact hj
      · have e1 : ((s.size : Int) == 0) = false := by rw [beq_eq_false_iff_ne]; omega
        have e2 : (s.toList == ([] : List UInt8)) = false := by
          rw [beq_eq_false_iff_ne, toList_bl]
          intro e
          exact h0 (by rw [← bl_len, e]; rfl)
        rw [e1, e2]
        refine BothQ.stepl (fun k => rfl) (BothQ.stepr (fun k => rfl) ?_)
        simp only [spec_FindFactoring.j0, impl_FindFactoring.j0, Bool.false_eq_true, if_false]
        rw [hw0.out]
        exact find_bothQ s ⟨hw, hc⟩ h hh hsz (isW_all hw) s.size 0 (by omega)
end Go.Proofs.YtcgnnfaemjjljaaDoor.Pure
end
section
namespace Go.Proofs.YtcgnnfaemjjljaaDoor.Pure
open Go.RowKit Go.Proofs.YtcgnnfaemjjljaaDoor Go.Proofs.YtcgnnfaemjjljaaDoor.Q Go.Proofs.YtcgnnfaemjjljaaDoor.UFnFactorings Go.Proofs.YtcgnnfaemjjljaaDoorW.PrintWords
set_option linter.unusedVariables false
set_option linter.unusedSimpArgs false
theorem part_word (x : ByteArray) (hs : x.size ≤ 200) (ha : (bl x).all isL = true) (p q : Nat) : impl_BackWord.f (x.extract p q) = some (⟨(backL (((bl x).drop p).take (q - p))).toArray⟩, 0) := by
  have hb := bl_extract x p q
  have hall : (bl (x.extract p q)).all isL = true := by rw [hb]; exact all_take (all_drop ha p) _
  have hsz : (x.extract p q).size ≤ 200 := by
    have h1 := size_bl x
    rw [size_bl, hb, List.length_take, List.length_drop]
    omega
  have hw : isW (x.extract p q) = true := by
    unfold isW
    rw [hall, Bool.true_and]
    exact decide_eq_true hsz
  unfold impl_BackWord.f
  rw [isWord_eq, hw]
  simp only [Option.bind_some, if_true]
  rw [backWord_eq _ (by omega) hall, hb]
  rfl
theorem bigF_eq (l : List Int) : laws_big.f l = some (decide ((l.length : Int) > 4096)) := rfl
theorem dfind {l : List Int} (hb : Bytes l) : Ev (fun k => spec_DrawFindFactoring.f k l) (fun w => w.size ≤ 5000) := by
  obtain ⟨s, h, hs⟩ := from_ok hb
  unfold spec_DrawFindFactoring.f
  rw [h]
  simp only [Option.bind_some]
  refine (draw_word_ends hb hs).bind fun r hr => ?_
  by_cases hc : (r.1.size : Int) > 40
  · exact Ev.pos hc (Ev.pure (by decide))
  · exact Ev.neg hc (Ev.pure hr.1)
theorem dis {l : List Int} (hb : Bytes l) : Ev (fun k => spec_DrawIsFactoring.f k l) (fun r => r.1.size ≤ 5000) := by
  obtain ⟨s, h, hs⟩ := from_ok hb
  unfold spec_DrawIsFactoring.f
  rw [h]
  simp only [Option.bind_some]
  refine (dfind hb).bind fun w hw => ?_
  obtain ⟨r, r1, _⟩ := findFac_both w (by omega)
  refine Ev.bindE r1 ?_
  have join : ∀ (z : Bool) (x8 x9 x10 a s : Int), Src l a s → Ev (fun k => spec_DrawIsFactoring.j0 k w x8 x9 x10 z l a s) (fun r => r.1.size ≤ 5000) := by
    intro z x8 x9 x10 a s hs
    refine Ev.step (fun k => rfl) ?_
    simp only [spec_DrawIsFactoring.j0]
    cases z
    · exact Ev.neg (by simp) (Ev.pure hw)
    · refine Ev.pos rfl ?_
      obtain ⟨n1, a1, s1, e1, hs1, _⟩ := next_ok hb hs 6 (by omega)
      obtain ⟨n2, a2, s2, e2, hs2, _⟩ := next_ok hb hs1 12 (by omega)
      obtain ⟨n3, a3, s3, e3, hs3, _⟩ := next_ok hb hs2 4 (by omega)
      obtain ⟨n4, a4, s4, e4, hs4, _⟩ := next_ok hb hs3 4 (by omega)
      obtain ⟨n5, a5, s5, e5, hs5, _⟩ := next_ok hb hs4 12 (by omega)
      simp only [e1, e2, e3, e4, e5, Option.bind_some]
      exact Ev.pure hw
  by_cases hz : r.2.2.2 = 0
  · refine Ev.pos hz ?_
    obtain ⟨n1, a1, s1, e1, hs1, _⟩ := next_ok hb hs 3 (by omega)
    simp only [e1, Option.bind_some]
    exact join _ _ _ _ _ _ hs1
  · exact Ev.neg hz (join _ _ _ _ _ _ hs)
theorem FnFactorings : laws_FnFactorings_Pure := by
  intro l hl _
  suffices h : Ev (fun k => laws_FnFactorings.f k l) (fun r => r = true) by
    obtain ⟨r, e, rfl⟩ := h
    exact e.out
  unfold laws_FnFactorings.f
  rw [bigF_eq]
  simp only [Option.bind_some]
  by_cases hbig : (l.length : Int) > 4096
  · exact Ev.pos (by simpa using hbig) (Ev.pure rfl)
  · refine Ev.neg (by simpa using hbig) ?_
    have hb : Bytes l := bytes_of hl.2 (by omega)
    refine (dfind hb).bind fun w hw => ?_
    obtain ⟨r, r1, r2, r3⟩ := findFac_bothQ w (by omega)
    refine Ev.bindE r2 (Ev.bindE r1 ((dis hb).bind fun v hv => ?_))
    refine Ev.pos (by simp) (Ev.pos (by simp) (Ev.pos (by simp) (Ev.pos (by simp) ?_)))
    refine Ev.bindE (implIsFac_eq v.1 v.2.1 v.2.2.1 v.2.2.2 (by omega)) (Ev.bindE (specIsFac_eq v.1 v.2.1 v.2.2.1 v.2.2.2 (by omega)) ?_)
    obtain ⟨i', a', b', bad⟩ := r
    refine Ev.step (fun k => rfl) ?_
    simp only [laws_FnFactorings.j0]
    refine Ev.neg (by simp) ?_
    by_cases hz : bad = 0
    · refine Ev.pos hz ?_
      obtain ⟨⟨hW, hC⟩, h, i, a, b, q1, q2, q3, hh, hi, hF⟩ := r3 hz
      replace q1 : i' = (i : Int) := q1
      replace q2 : a' = (a : Int) := q2
      replace q3 : b' = (b : Int) := q3
      subst q1 q2 q3
      have hsz := isW_size hW
      have hall := isW_all hW
      have hF0 := hF
      unfold Fac at hF
      simp only [Bool.and_eq_true, decide_eq_true_eq] at hF
      obtain ⟨hab, hzz, hfac⟩ := hF
      have hes := ext_sizes w i
      have hx := bl_rot w i
      have hxs : (w.extract i w.size ++ w.extract 0 i).size = w.size := by rw [size_bl, hx, rot_len, bl_len]
      have hxa : (bl (w.extract i w.size ++ w.extract 0 i)).all isL = true := by rw [hx]; exact all_rot hall i
      have e1 : wrap64 ((a : Int) + (b : Int)) = ((a + b : Nat) : Int) := by rw [w64 (by omega) (by omega)]; omega
      have e2 : wrap64 ((w.size : Int) / 2) = (h : Int) := by rw [w64 (by omega) (by omega)]; omega
      rw [e1, e2]
      clear e1 e2
      simp only [Int.toNat_natCast]
      have p1 := part_word (w.extract i w.size ++ w.extract 0 i) (by omega) hxa 0 a
      have p2 := part_word (w.extract i w.size ++ w.extract 0 i) (by omega) hxa a (a + b)
      have p3 := part_word (w.extract i w.size ++ w.extract 0 i) (by omega) hxa (a + b) h
      have l1 : (backL (((bl (w.extract i w.size ++ w.extract 0 i)).drop 0).take (a - 0))).length ≤ 200 := by rw [back_len, List.length_take]; omega
      have l2 : (backL (((bl (w.extract i w.size ++ w.extract 0 i)).drop a).take (a + b - a))).length ≤ 200 := by rw [back_len, List.length_take]; omega
      have l3 : (backL (((bl (w.extract i w.size ++ w.extract 0 i)).drop (a + b)).take (h - (a + b)))).length ≤ 200 := by rw [back_len, List.length_take]; omega
      generalize f1 : backL (((bl (w.extract i w.size ++ w.extract 0 i)).drop 0).take (a - 0)) = L1 at p1 l1
      generalize f2 : backL (((bl (w.extract i w.size ++ w.extract 0 i)).drop a).take (a + b - a)) = L2 at p2 l2
      generalize f3 : backL (((bl (w.extract i w.size ++ w.extract 0 i)).drop (a + b)).take (h - (a + b))) = L3 at p3 l3
      rw [p1, p2, p3]
      simp only [Option.bind_some]
      have sz : ∀ m : List UInt8, (⟨m.toArray⟩ : ByteArray).size = m.length := fun m => by simp [ByteArray.size]
      refine Ev.pos (by omega) (Ev.pos (by omega) (Ev.pos (by omega) (Ev.pos (by omega) (Ev.pos (by omega) (Ev.pos (by omega) (Ev.pos (by omega) (Ev.pos (by omega) (Ev.pos (by omega) (Ev.pos (by omega) ?_)))))))))
      refine Ev.pos (by simp) (Ev.pos (by simp) (Ev.pos (by simp) (Ev.pos (by omega) ?_)))
      refine Ev.pos (by rw [sz L1, sz L2]; omega) (Ev.pos (by rw [ByteArray.size_append, sz L1, sz L2, sz L3]; omega) ?_)
      have heq : ((w.extract i w.size ++ w.extract 0 i).extract h (w.extract i w.size ++ w.extract 0 i).size).toList = ((⟨L1.toArray⟩ : ByteArray) ++ ⟨L2.toArray⟩ ++ ⟨L3.toArray⟩ : ByteArray).toList := by
        rw [toList_bl, toList_bl, bl_drop, hx, bl_append, bl_append, bl_mk, bl_mk, bl_mk, ← f1, ← f2, ← f3, hx]
        unfold facB at hfac
        have h2 := beq_iff_eq.mp hfac
        rw [h2, List.drop_zero, Nat.sub_zero, show a + b - a = b by omega]
      refine Ev.pos heq ?_
      refine Ev.bindE (implIsFac_eq w i a b (by omega)) (Ev.pure ?_)
      unfold isF
      have eh : w.size / 2 = h := by omega
      rw [hW, hC, eh, Int.toNat_natCast, Int.toNat_natCast, Int.toNat_natCast, hF0, decide_eq_true (by omega : 0 < w.size), decide_eq_true ⟨⟨by omega, by omega⟩, by omega, by omega⟩]
      rfl
    · exact Ev.neg hz (Ev.pure rfl)
end Go.Proofs.YtcgnnfaemjjljaaDoor.Pure
end
