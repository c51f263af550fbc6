/- The pure side of the law FnExactMovedParts: parts of this session, put into one text by merge.py. -/
import Derived.Test.YtjgnlakgojookaaQ0
import Derived.Test.YtjgnlakgojookaaOpn
import Derived.Test.YtjgnlakgojookaaQ2
import Derived.Test.YtjgnlakgojookaaQ9
import Derived.Test.YtjgnlakgojookaaQ3
import Derived.Test.YtjgnlakgojookaaQ4
import Derived.Test.YtjgnlakgojookaaQ5
import Derived.Test.YtjgnlakgojookaaQGspecl09Connected
import Derived.Test.YtjgnlakgojookaaQ10
import Derived.Test.YtjgnlakgojookaaQ11
import Derived.Test.YtjgnlakgojookaaQ12
import Derived.Test.YtjgnlakgojookaaQ13
import Derived.Test.YtjgnlakgojookaaQGimplnewFrame
import Derived.Test.YtjgnlakgojookaaQGimplframetouch
import Derived.Test.YtjgnlakgojookaaQ6
import Derived.Test.YtjgnlakgojookaaQ7
import Derived.Test.YtjgnlakgojookaaQ8
import Derived.Test.YtjgnlakgojookaaQGimplframealone
import Derived.Test.YtjgnlakgojookaaQGimplframeclear
import Derived.Test.YtjgnlakgojookaaQGimplIsAssembly
import Derived.Test.YtjgnlakgojookaaQ16
import Derived.Test.YtjgnlakgojookaaQ17
import Derived.Test.YtjgnlakgojookaaQ18
import Derived.Test.YtjgnlakgojookaaQGimplframeareOffsets
import Derived.Test.YtjgnlakgojookaaQ20
import Derived.Test.YtjgnlakgojookaaQ21
import Derived.Test.YtjgnlakgojookaaQ28
import Derived.Test.YtjgnlakgojookaaQGimplreadOffsets
import Derived.Test.YtjgnlakgojookaaQ32
import Derived.Test.YtjgnlakgojookaaQGlawsmarkCubeSS
import Derived.Test.YtjgnlakgojookaaQGlawsmarkAssembly
import Derived.Test.YtjgnlakgojookaaQ33
import Derived.Test.YtjgnlakgojookaaQ14
import Derived.Test.YtjgnlakgojookaaQ30
import Derived.Test.YtjgnlakgojookaaQ31
import Derived.Test.YtjgnlakgojookaaQGimplMovedParts
import Derived.Test.YtjgnlakgojookaaQGlawsFnExactMovedParts
import Derived.Test.YtjgnlakgojookaaUFnExactMovedParts
section
namespace Go.Proofs.Ytjgnlakgojookaa.Pure
open Go.RowKit
set_option linter.unusedVariables false
set_option linter.unusedSimpArgs false
def Evt {α : Type} (g : Nat → Option α) (r : α) : Prop := ∃ K, ∀ k, K ≤ k → g k = some r
theorem Evt.out {α : Type} {g : Nat → Option α} {r : α} (h : Evt g r) : ∃ k, g k = some r := by
  obtain ⟨K, h⟩ := h
  exact ⟨K, h K (Nat.le_refl _)⟩
theorem Evt.pure {α : Type} {r : α} : Evt (fun _ => some r) r := ⟨0, fun _ _ => rfl⟩
theorem Evt.const {α : Type} {o : Option α} {r : α} (h : o = some r) : Evt (fun _ => o) r := ⟨0, fun _ _ => h⟩
theorem Evt.of_eq {α : Type} {g g' : Nat → Option α} {r : α} (e : ∀ k, g' k = g k) (h : Evt g r) : Evt g' r := by
  obtain ⟨K, h⟩ := h
  exact ⟨K, fun k hk => (e k).trans (h k hk)⟩
theorem Evt.bind {α β : Type} {g : Nat → Option α} {f : Nat → α → Option β} {a : α} {r : β} (h : Evt g a) (h2 : Evt (fun k => f k a) r) : Evt (fun k => (g k).bind (f k)) r := by
  obtain ⟨K, h⟩ := h
  obtain ⟨K2, h2⟩ := h2
  refine ⟨K + K2, fun k hk => ?_⟩
  show (g k).bind (f k) = some r
  rw [h k (by omega)]
  exact h2 k (by omega)
theorem Evt.step {α : Type} {g h : Nat → Option α} {r : α} (e : ∀ k, g (k + 1) = h k) (hh : Evt h r) : Evt g r := by
  obtain ⟨K, hh⟩ := hh
  refine ⟨K + 1, fun k hk => ?_⟩
  obtain ⟨m, rfl⟩ : ∃ m, k = m + 1 := ⟨k - 1, by omega⟩
  rw [e m]
  exact hh m (by omega)
theorem Evt.ite_pos {α : Type} {c : Prop} [Decidable c] {g h : Nat → Option α} {r : α} (hc : c) (hg : Evt g r) : Evt (fun k => if c then g k else h k) r := Evt.of_eq (fun k => if_pos hc) hg
theorem Evt.ite_neg {α : Type} {c : Prop} [Decidable c] {g h : Nat → Option α} {r : α} (hc : ¬ c) (hg : Evt h r) : Evt (fun k => if c then g k else h k) r := Evt.of_eq (fun k => if_neg hc) hg
theorem Evt.up {α : Type} {g : Nat → Nat → Option α} {R : Nat → α} {n : Nat} (hend : Evt (fun k => g k n) (R n)) (hstep : ∀ i, i < n → Evt (fun k => g k (i + 1)) (R (i + 1)) → Evt (fun k => g k i) (R i)) : ∀ i, i ≤ n → Evt (fun k => g k i) (R i) := by
  intro i hi
  obtain ⟨d, hd⟩ : ∃ d, n = i + d := ⟨n - i, by omega⟩
  induction d generalizing i with
  | zero => have e : i = n := by omega
            rw [e]; exact hend
  | succ d ih => exact hstep i (by omega) (ih (i + 1) (by omega) (by omega))
theorem Evt.upS {α σ : Type} {g : Nat → Nat → σ → Option α} {R : Nat → σ → α} {P : Nat → σ → Prop} {n : Nat} (hend : ∀ s, P n s → Evt (fun k => g k n s) (R n s))
    (hstep : ∀ i s, i < n → P i s → (∀ s', P (i + 1) s' → Evt (fun k => g k (i + 1) s') (R (i + 1) s')) → Evt (fun k => g k i s) (R i s)) : ∀ i s, i ≤ n → P i s → Evt (fun k => g k i s) (R i s) := by
  intro i s hi hp
  obtain ⟨d, hd⟩ : ∃ d, n = i + d := ⟨n - i, by omega⟩
  induction d generalizing i s with
  | zero => have e : i = n := by omega
            rw [e] at hp ⊢; exact hend s hp
  | succ d ih => exact hstep i s (by omega) hp (fun s' hp' => ih (i + 1) s' (by omega) hp' (by omega))
def Both {α : Type} (g h : Nat → Option α) : Prop := ∃ r, Evt g r ∧ Evt h r
theorem Both.stepl {α : Type} {g g' h : Nat → Option α} (e : ∀ k, g (k + 1) = g' k) (b : Both g' h) : Both g h := by
  obtain ⟨r, a, b⟩ := b
  exact ⟨r, a.step e, b⟩
theorem Both.stepr {α : Type} {g h h' : Nat → Option α} (e : ∀ k, h (k + 1) = h' k) (b : Both g h') : Both g h := by
  obtain ⟨r, a, b⟩ := b
  exact ⟨r, a, b.step e⟩
theorem Both.eql {α : Type} {g g' h : Nat → Option α} (e : ∀ k, g k = g' k) (b : Both g' h) : Both g h := by
  obtain ⟨r, a, b⟩ := b
  exact ⟨r, a.of_eq e, b⟩
theorem Both.eqr {α : Type} {g h h' : Nat → Option α} (e : ∀ k, h k = h' k) (b : Both g h') : Both g h := by
  obtain ⟨r, a, b⟩ := b
  exact ⟨r, a, b.of_eq e⟩
theorem Both.bindl {α β : Type} {g : Nat → Option β} {f : Nat → β → Option α} {h : Nat → Option α} {x : β} (e : Evt g x) (b : Both (fun k => f k x) h) : Both (fun k => (g k).bind (f k)) h := by
  obtain ⟨r, a, b⟩ := b
  exact ⟨r, e.bind a, b⟩
theorem Both.bindr {α β : Type} {g : Nat → Option β} {f : Nat → β → Option α} {h : Nat → Option α} {x : β} (e : Evt g x) (b : Both h (fun k => f k x)) : Both h (fun k => (g k).bind (f k)) := by
  obtain ⟨r, a, b⟩ := b
  exact ⟨r, a, e.bind b⟩
theorem Both.pure {α : Type} {r : α} : Both (fun _ => some r) (fun _ => some r) := ⟨r, Evt.pure, Evt.pure⟩
theorem Both.pl {α : Type} {c : Prop} [Decidable c] {g g' h : Nat → Option α} (hc : c) (b : Both g h) : Both (fun k => if c then g k else g' k) h := Both.eql (fun _ => if_pos hc) b
theorem Both.nl {α : Type} {c : Prop} [Decidable c] {g g' h : Nat → Option α} (hc : ¬ c) (b : Both g' h) : Both (fun k => if c then g k else g' k) h := Both.eql (fun _ => if_neg hc) b
theorem Both.pr {α : Type} {c : Prop} [Decidable c] {g h h' : Nat → Option α} (hc : c) (b : Both g h) : Both g (fun k => if c then h k else h' k) := Both.eqr (fun _ => if_pos hc) b
theorem Both.nr {α : Type} {c : Prop} [Decidable c] {g h h' : Nat → Option α} (hc : ¬ c) (b : Both g h') : Both g (fun k => if c then h k else h' k) := Both.eqr (fun _ => if_neg hc) b
theorem wrap_succ {i n : Nat} (h : i < n) (hn : n ≤ 9223372036854775807) : wrap64 ((i : Int) + 1) = ((i + 1 : Nat) : Int) := by
  unfold wrap64
  omega
end Go.Proofs.Ytjgnlakgojookaa.Pure
end
section
namespace Go.Proofs.Ytjgnlakgojookaa.Pure
open Go.RowKit Go.Proofs.Ytjgnlakgojookaa Go.Proofs.Ytjgnlakgojookaa.Q Go.Proofs.YtjgnlakgojookaaW.PrintWords
set_option linter.unusedVariables false
set_option linter.unusedSimpArgs false
theorem w64 {n : Int} (h0 : -9223372036854775808 ≤ n) (h1 : n ≤ 9223372036854775807) : wrap64 n = n := by
  unfold wrap64
  omega
theorem in_eq (a b c : Int) : spec_l01In.f a b c = some (decide (b ≤ a ∧ a ≤ c)) := by
  unfold spec_l01In.f
  by_cases h : a ≥ b
  · rw [if_pos h]; simp; intro _; exact h
  · rw [if_neg h]; simp; intro h2; omega
theorem within_eq (a b c : Int) : impl_within.f a b c = some (decide (b ≤ a ∧ a ≤ c)) := in_eq a b c
end Go.Proofs.Ytjgnlakgojookaa.Pure
end
section
namespace Go.Proofs.Ytjgnlakgojookaa.Pure
open Go.RowKit Go.Proofs.Ytjgnlakgojookaa Go.Proofs.Ytjgnlakgojookaa.Q Go.Proofs.YtjgnlakgojookaaW.PrintWords
set_option linter.unusedVariables false
set_option linter.unusedSimpArgs false
def Co (x : Int) : Bool := decide (-100 ≤ x ∧ x ≤ 100)
theorem Co_iff {x : Int} : Co x = true ↔ -100 ≤ x ∧ x ≤ 100 := by simp [Co]
theorem l02Cell_eq (x y : Int) : spec_l02Cell.f x y = some (Co x && Co y) := by
  unfold spec_l02Cell.f Co
  rw [in_eq]
  simp only [Option.bind_some]
  by_cases c : -100 ≤ x ∧ x ≤ 100
  · rw [if_pos (by simpa using c), in_eq]
    simp [c]
  · rw [if_neg (by simpa using c)]
    simp [c]
end Go.Proofs.Ytjgnlakgojookaa.Pure
end
section
namespace Go.Proofs.Ytjgnlakgojookaa.Pure
open Go.RowKit Go.Proofs.Ytjgnlakgojookaa Go.Proofs.Ytjgnlakgojookaa.Q Go.Proofs.YtjgnlakgojookaaW.PrintWords
set_option linter.unusedVariables false
set_option linter.unusedSimpArgs false
abbrev Cube := S71
theorem qgd {α : Type} (l : List α) (i : Nat) (z : α) (h : i < l.length) : l.getD i z = l[i] := by simp [List.getD_eq_getElem?_getD, List.getElem?_eq_getElem h]
theorem qdrop {α : Type} (l : List α) (i : Nat) (z : α) (h : i < l.length) : l.drop i = l.getD i z :: l.drop (i + 1) := by
  rw [List.drop_eq_getElem_cons h, qgd l i z h]
theorem qmem {α : Type} (l : List α) (i : Nat) (z : α) (h : i < l.length) : l.getD i z ∈ l := by rw [qgd l i z h]; exact List.getElem_mem h
theorem rdQ (l : List Cube) (i : Nat) : rd_T71 l (i : Int) = l.getD i z71 := by simp [rd_T71]
theorem rdQ4 (l : List (List Cube)) (i : Nat) : rd_L4 l (i : Int) = l.getD i [] := by simp [rd_L4]
theorem prtN (l : List (List Cube)) (i : Nat) : prt l (i : Int) = l.getD i [] := by simp [prt]
theorem cube_ext {p q : Cube} (h0 : p.f0 = q.f0) (h1 : p.f1 = q.f1) (h2 : p.f2 = q.f2) : p = q := by
  cases p; cases q; simp at h0 h1 h2; rw [h0, h1, h2]
def allF (ok : Nat → Bool) (n i : Nat) : Bool := (List.range' i (n - i)).all ok
theorem allF_end (ok : Nat → Bool) (n : Nat) : allF ok n n = true := by simp [allF]
theorem allF_succ (ok : Nat → Bool) {n i : Nat} (h : i < n) : allF ok n i = (ok i && allF ok n (i + 1)) := by
  unfold allF
  rw [show n - i = (n - (i + 1)) + 1 by omega, List.range'_succ]
  rfl
theorem allF_true {ok : Nat → Bool} {n i : Nat} : allF ok n i = true ↔ ∀ j, i ≤ j → j < n → ok j = true := by
  unfold allF
  rw [List.all_eq_true]
  constructor
  · intro h j h1 h2
    exact h j (by rw [List.mem_range'_1]; omega)
  · intro h j hj
    rw [List.mem_range'_1] at hj
    exact h j (by omega) (by omega)
def coQ (c : Cube) : Bool := (Co c.f0 && Co c.f1) && Co c.f2
theorem coQ_iff {c : Cube} : coQ c = true ↔ (-100 ≤ c.f0 ∧ c.f0 ≤ 100) ∧ (-100 ≤ c.f1 ∧ c.f1 ≤ 100) ∧ (-100 ≤ c.f2 ∧ c.f2 ≤ 100) := by
  unfold coQ
  simp [Co_iff, and_assoc]
theorem l09Cube_eq (c : Cube) : spec_l09Cube.f c.f0 c.f1 c.f2 = some (coQ c) := by
  unfold spec_l09Cube.f coQ
  rw [l02Cell_eq]
  simp only [Option.bind_some]
  cases Co c.f0 && Co c.f1
  · simp
  · simp only [if_true, in_eq, Option.bind_some, Bool.true_and]
    rfl
def lessQ (a b : Cube) : Bool := decide (a.f2 < b.f2) || (decide (a.f2 = b.f2) && (decide (a.f1 < b.f1) || (decide (a.f1 = b.f1) && decide (a.f0 < b.f0))))
theorem l09Less_eq (a b : Cube) : spec_l09Less.f a.f0 a.f1 a.f2 b.f0 b.f1 b.f2 = some (lessQ a b) := by
  unfold spec_l09Less.f lessQ
  by_cases h : a.f2 < b.f2
  · simp [h]
  · by_cases h2 : a.f2 = b.f2
    · by_cases h3 : a.f1 < b.f1
      · simp [h2, h3]
      · by_cases h4 : a.f1 = b.f1
        · simp [h2, h4]
        · simp [h2, h3, h4]
    · simp [h, h2]
theorem isNaN_eq (x : Int) : cmp_isNaN_int64.f x = some false := by
  unfold cmp_isNaN_int64.f
  simp
def cmpI (a b : Int) : Int := if a < b then -1 else if a > b then 1 else 0
theorem Compare_eq (a b : Int) : cmp_Compare_int64.f a b = some (cmpI a b) := by
  unfold cmp_Compare_int64.f cmpI
  rw [isNaN_eq, isNaN_eq]
  simp only [Option.bind_some]
  by_cases h1 : a < b
  · simp [h1]
  · by_cases h2 : a > b
    · simp [h1, h2]
    · simp [h1, h2]
def cmpQ (a b : Cube) : Int := if cmpI a.f2 b.f2 = 0 then (if cmpI a.f1 b.f1 = 0 then cmpI a.f0 b.f0 else cmpI a.f1 b.f1) else cmpI a.f2 b.f2
theorem compareCubes_eq (a b : Cube) : impl_compareCubes.f a.f0 a.f1 a.f2 b.f0 b.f1 b.f2 = some (cmpQ a b) := by
  unfold impl_compareCubes.f impl_compareCells.f cmpQ
  rw [Compare_eq, Compare_eq, Compare_eq]
  simp only [Option.bind_some]
  by_cases h : cmpI a.f2 b.f2 = 0
  · rw [if_pos h, if_pos h]
    by_cases h2 : cmpI a.f1 b.f1 = 0
    · rw [if_pos h2, if_pos h2]; rfl
    · rw [if_neg h2, if_neg h2]; rfl
  · rw [if_neg h, if_neg h]
theorem cmpQ_less (a b : Cube) : cmpQ a b < 0 ↔ lessQ a b = true := by
  unfold cmpQ cmpI lessQ
  repeat (split)
  all_goals (simp; omega)
theorem isCoordinate_eq (x : Int) : impl_isCoordinate.f x = some (Co x) := by
  unfold impl_isCoordinate.f
  rw [within_eq]
  rfl
def soOk (l : List Cube) (i : Nat) : Bool := coQ (l.getD i z71) && (decide (i = 0) || lessQ (l.getD (i - 1) z71) (l.getD i z71))
def So (l : List Cube) : Bool := allF (soOk l) l.length 0 && decide (1 ≤ l.length ∧ l.length ≤ 24)
theorem So_iff {l : List Cube} : So l = true ↔ (∀ j, j < l.length → soOk l j = true) ∧ 1 ≤ l.length ∧ l.length ≤ 24 := by
  unfold So
  rw [Bool.and_eq_true, allF_true, decide_eq_true_eq]
  constructor
  · rintro ⟨h1, h2⟩; exact ⟨fun j hj => h1 j (Nat.zero_le _) hj, h2⟩
  · rintro ⟨h1, h2⟩; exact ⟨fun j _ hj => h1 j hj, h2⟩
theorem So_co {l : List Cube} (h : So l = true) : ∀ c ∈ l, coQ c = true := by
  intro c hc
  obtain ⟨i, hi, rfl⟩ := List.getElem_of_mem hc
  have h1 := (So_iff.1 h).1 i hi
  unfold soOk at h1
  rw [qgd l i _ hi] at h1
  exact (Bool.and_eq_true_iff.1 h1).1
theorem l09Solid_eq (l : List Cube) (hl : l.length ≤ 9223372036854775807) : Evt (fun k => spec_l09Solid.f k l) (So l) := by
  unfold spec_l09Solid.f
  refine Evt.up (g := fun k i => spec_l09Solid.l0 k l (i : Int)) (R := fun i => allF (soOk l) l.length i && decide (1 ≤ l.length ∧ l.length ≤ 24)) (n := l.length) ?_ ?_ 0 (Nat.zero_le _)
  · refine Evt.step (fun k => rfl) ?_
    simp only [spec_l09Solid.l0]
    refine Evt.ite_neg (by omega) ?_
    rw [in_eq, allF_end, Bool.true_and]
    refine Evt.const ?_
    simp only [Option.bind_some]
    congr 1
    exact decide_eq_decide.2 (by omega)
  · intro i hi ih
    refine Evt.step (fun k => rfl) ?_
    simp only [spec_l09Solid.l0, l09Cube_eq, Option.bind_some]
    refine Evt.ite_pos (by omega) (Evt.ite_pos (by omega) ?_)
    rw [allF_succ _ hi]
    simp only [rdQ]
    by_cases hc : coQ (l.getD i z71) = true
    · refine Evt.ite_pos hc ?_
      by_cases h0 : i = 0
      · subst h0
        refine Evt.ite_neg (by omega) ?_
        rw [wrap_succ hi hl]
        have e : soOk l 0 = true := by unfold soOk; rw [hc]; rfl
        rw [e, Bool.true_and]
        exact ih
      · refine Evt.ite_pos (by omega) ?_
        have ew : wrap64 ((i : Int) - 1) = ((i - 1 : Nat) : Int) := by rw [w64 (by omega) (by omega)]; omega
        simp only [ew, rdQ, l09Less_eq, Option.bind_some]
        refine Evt.ite_pos (by omega) (Evt.ite_pos (by omega) ?_)
        rw [wrap_succ hi hl]
        by_cases hls : lessQ (l.getD (i - 1) z71) (l.getD i z71) = true
        · refine Evt.ite_pos hls ?_
          have e : soOk l i = true := by unfold soOk; rw [hc, hls]; simp
          rw [e, Bool.true_and]
          exact ih
        · refine Evt.ite_neg hls ?_
          have e : soOk l i = false := by unfold soOk; rw [hc, Bool.eq_false_iff.mpr hls]; simp [h0]
          rw [e]
          exact Evt.pure
    · refine Evt.ite_neg hc ?_
      have e : soOk l i = false := by unfold soOk; rw [Bool.eq_false_iff.mpr hc]; rfl
      rw [e]
      exact Evt.pure
theorem isSolid_eq (l : List Cube) (hl : l.length ≤ 9223372036854775807) : Evt (fun k => impl_isSolid.f k l) (So l) := by
  unfold impl_isSolid.f
  refine Evt.up (g := fun k i => impl_isSolid.l0 k l l (l.length : Int) (i : Int)) (R := fun i => allF (soOk l) l.length i && decide (1 ≤ l.length ∧ l.length ≤ 24)) (n := l.length) ?_ ?_ 0 (Nat.zero_le _)
  · refine Evt.step (fun k => rfl) ?_
    simp only [impl_isSolid.l0]
    refine Evt.ite_neg (by omega) ?_
    rw [allF_end]
    by_cases h1 : (l.length : Int) ≥ 1
    · refine Evt.ite_pos h1 (Evt.const ?_)
      rw [Bool.true_and]
      congr 1
      exact decide_eq_decide.2 (by omega)
    · refine Evt.ite_neg h1 (Evt.const ?_)
      simp
      omega
  · intro i hi ih
    refine Evt.step (fun k => rfl) ?_
    simp only [impl_isSolid.l0, isCoordinate_eq, Option.bind_some]
    refine Evt.ite_pos (by omega) (Evt.ite_pos (by omega) (Evt.ite_pos (by omega) ?_))
    rw [allF_succ _ hi]
    simp only [rdQ]
    by_cases hc0 : Co (l.getD i z71).f0 = true
    · refine Evt.ite_pos hc0 ?_
      by_cases hc1 : Co (l.getD i z71).f1 = true
      · refine Evt.ite_pos hc1 ?_
        by_cases hc2 : Co (l.getD i z71).f2 = true
        · refine Evt.ite_pos hc2 ?_
          have hco : coQ (l.getD i z71) = true := by unfold coQ; rw [hc0, hc1, hc2]; rfl
          by_cases h0 : i = 0
          · subst h0
            refine Evt.ite_neg (by omega) ?_
            rw [wrap_succ hi hl]
            have e : soOk l 0 = true := by unfold soOk; rw [hco]; rfl
            rw [e, Bool.true_and]
            exact ih
          · refine Evt.ite_pos (by omega) ?_
            have ew : wrap64 ((i : Int) - 1) = ((i - 1 : Nat) : Int) := by rw [w64 (by omega) (by omega)]; omega
            simp only [ew, rdQ, compareCubes_eq, Option.bind_some]
            refine Evt.ite_pos (by omega) (Evt.ite_pos (by omega) ?_)
            rw [wrap_succ hi hl]
            have hiff := cmpQ_less (l.getD (i - 1) z71) (l.getD i z71)
            by_cases hls : lessQ (l.getD (i - 1) z71) (l.getD i z71) = true
            · refine Evt.ite_neg (by have := hiff.2 hls; omega) ?_
              have e : soOk l i = true := by unfold soOk; rw [hco, hls]; simp
              rw [e, Bool.true_and]
              exact ih
            · refine Evt.ite_pos (by rcases Int.lt_or_le (cmpQ (l.getD (i - 1) z71) (l.getD i z71)) 0 with h | h; exact absurd (hiff.1 h) hls; exact h) ?_
              have e : soOk l i = false := by unfold soOk; rw [hco, Bool.eq_false_iff.mpr hls]; simp [h0]
              rw [e]
              exact Evt.pure
        · refine Evt.ite_neg hc2 ?_
          have e : soOk l i = false := by unfold soOk coQ; rw [Bool.eq_false_iff.mpr hc2]; simp
          rw [e]
          exact Evt.pure
      · refine Evt.ite_neg hc1 ?_
        have e : soOk l i = false := by unfold soOk coQ; rw [Bool.eq_false_iff.mpr hc1]; simp
        rw [e]
        exact Evt.pure
    · refine Evt.ite_neg hc0 ?_
      have e : soOk l i = false := by unfold soOk coQ; rw [Bool.eq_false_iff.mpr hc0]; rfl
      rw [e]
      exact Evt.pure
theorem hasC_mem {l : List Cube} {c : Cube} : hasC l c.f0 c.f1 c.f2 = true ↔ c ∈ l := by
  unfold hasC
  rw [List.any_eq_true]
  constructor
  · rintro ⟨q, hq, h⟩
    simp at h
    have e : c = q := cube_ext h.1.1.symm h.1.2.symm h.2.symm
    rw [e]; exact hq
  · intro h
    exact ⟨c, h, by simp⟩
theorem contains_eq (l : List Cube) (a b c : Int) (hl : l.length ≤ 9223372036854775807) : Evt (fun k => impl_Cube_97.f k l a b c) (hasC l a b c) :=
  ⟨l.length + 1, fun k hk => at_rounds (g := fun k => impl_Cube_97.f k l a b c) (fun k => impl_Cube_97.mono _ _ _ _ k) hk (has_eq l a b c hl)⟩
def ixQ (a b c : Int) : Nat → List Cube → Int
  | _, [] => -1
  | i, q :: r => if (q.f0 == a && (q.f1 == b && q.f2 == c)) = true then (i : Int) else ixQ a b c (i + 1) r
theorem ixQ_has (a b c : Int) : ∀ (l : List Cube) (i : Nat), decide (0 ≤ ixQ a b c i l) = hasC l a b c
  | [], i => by simp [ixQ, hasC]
  | q :: r, i => by
    have ih := ixQ_has a b c r (i + 1)
    unfold ixQ hasC
    rw [List.any_cons, Bool.and_assoc]
    cases h : (q.f0 == a && (q.f1 == b && q.f2 == c))
    · rw [if_neg (by simp), ih, Bool.false_or]
      rfl
    · rw [if_pos rfl]
      simp
theorem ixQ_pos {a b c : Int} {l : List Cube} (h : hasC l a b c = true) : 0 ≤ ixQ a b c 0 l := by
  have := ixQ_has a b c l 0
  rw [h] at this
  exact of_decide_eq_true this
theorem ixQ_neg {a b c : Int} {l : List Cube} (h : hasC l a b c = false) : ixQ a b c 0 l < 0 := by
  have := ixQ_has a b c l 0
  rw [h] at this
  have h2 := of_decide_eq_false this
  omega
theorem l09Index_eq (l : List Cube) (a b c : Int) (hl : l.length ≤ 9223372036854775807) : Evt (fun k => spec_l09Index.f k l a b c) (ixQ a b c 0 l) := by
  unfold spec_l09Index.f
  have h := Evt.up (g := fun k i => spec_l09Index.l0 k l (i : Int) a b c) (R := fun i => ixQ a b c i (l.drop i)) (n := l.length) ?_ ?_ 0 (Nat.zero_le _)
  · exact h
  · refine Evt.step (fun k => rfl) ?_
    simp only [spec_l09Index.l0]
    refine Evt.ite_neg (by omega) ?_
    rw [List.drop_length]
    exact Evt.pure
  · intro i hi ih
    refine Evt.step (fun k => rfl) ?_
    simp only [spec_l09Index.l0, rdQ]
    refine Evt.ite_pos (by omega) (Evt.ite_pos (by omega) ?_)
    rw [qdrop l i z71 hi]
    unfold ixQ
    by_cases hc : ((l.getD i z71).f0 == a && ((l.getD i z71).f1 == b && (l.getD i z71).f2 == c)) = true
    · rw [if_pos hc]
      exact Evt.ite_pos hc Evt.pure
    · rw [if_neg hc]
      refine Evt.ite_neg hc ?_
      rw [wrap_succ hi hl]
      exact ih
theorem nodup_leQ {α : Type} [DecidableEq α] : ∀ (a b : List α), a.Nodup → (∀ x ∈ a, x ∈ b) → a.length ≤ b.length
  | [], _, _, _ => Nat.zero_le _
  | x :: r, b, hn, hs => by
    obtain ⟨h1, h2⟩ := List.nodup_cons.1 hn
    have hx := hs x List.mem_cons_self
    have ih := nodup_leQ r (b.erase x) h2 (fun y hy => (List.mem_erase_of_ne (fun e => h1 (by rw [← e]; exact hy))).2 (hs y (List.mem_cons_of_mem _ hy)))
    rw [List.length_erase_of_mem hx] at ih
    have : 0 < b.length := List.length_pos_of_mem hx
    simp
    omega
def nbs (c : Cube) : List Cube := [⟨c.f0, c.f1, wrap64 (c.f2 - 1)⟩, ⟨c.f0, wrap64 (c.f1 - 1), c.f2⟩, ⟨wrap64 (c.f0 - 1), c.f1, c.f2⟩, ⟨wrap64 (c.f0 + 1), c.f1, c.f2⟩, ⟨c.f0, wrap64 (c.f1 + 1), c.f2⟩, ⟨c.f0, c.f1, wrap64 (c.f2 + 1)⟩]
theorem around_eq (c : Cube) : impl_cubesAround.f c.f0 c.f1 c.f2 = some (nbs c) := rfl
theorem nbs_at {c : Cube} (hc : coQ c = true) (i : Nat) (hi : i < 6) : (nbs c).getD i z71 = addS c (stepL.getD i z71) := by
  obtain ⟨h0, h1, h2⟩ := coQ_iff.1 hc
  have e0 : wrap64 (c.f0 + 0) = c.f0 := by unfold wrap64; omega
  have e1 : wrap64 (c.f1 + 0) = c.f1 := by unfold wrap64; omega
  have e2 : wrap64 (c.f2 + 0) = c.f2 := by unfold wrap64; omega
  match i, hi with
  | 0, _ => simp [nbs, stepL, addS]; exact ⟨by simpa using e0.symm, by simpa using e1.symm, by congr 1⟩
  | 1, _ => simp [nbs, stepL, addS]; exact ⟨by simpa using e0.symm, by congr 1, by simpa using e2.symm⟩
  | 2, _ => simp [nbs, stepL, addS]; exact ⟨by congr 1, by simpa using e1.symm, by simpa using e2.symm⟩
  | 3, _ => simp [nbs, stepL, addS]; exact ⟨by simpa using e1.symm, by simpa using e2.symm⟩
  | 4, _ => simp [nbs, stepL, addS]; exact ⟨by simpa using e0.symm, by simpa using e2.symm⟩
  | 5, _ => simp [nbs, stepL, addS]; exact ⟨by simpa using e0.symm, by simpa using e1.symm⟩
def Inv (l o : List Cube) : Prop := (∀ c ∈ o, c ∈ l) ∧ o.Nodup
theorem Inv.le {l o : List Cube} (h : Inv l o) : o.length ≤ l.length := by
  haveI : DecidableEq Cube := fun a b => Classical.propDecidable _
  exact nodup_leQ o l h.2 h.1
theorem Inv.snoc {l o : List Cube} (h : Inv l o) {c : Cube} (hl : c ∈ l) (ho : c ∉ o) : Inv l (o ++ [c]) := by
  refine ⟨fun d hd => ?_, ?_⟩
  · rcases List.mem_append.1 hd with hd | hd
    · exact h.1 d hd
    · rw [List.mem_singleton.1 hd]; exact hl
  · rw [List.nodup_append]
    refine ⟨h.2, by simp, fun a ha b hb => ?_⟩
    rw [List.mem_singleton.1 hb]
    exact fun e => ho (by rw [← e]; exact ha)
theorem conn_inner {l : List Cube} (hl : l.length ≤ 24) {c0 : Cube} (hc0 : coQ c0 = true) {n : Nat}
    (cont : ∀ o, Inv l o → n < o.length → Both (fun k => impl_connectedCubes.l0 k l o ((n + 1 : Nat) : Int)) (fun k => spec_l09Connected.l0 k l o ((n + 1 : Nat) : Int))) :
    ∀ (d i : Nat) (o : List Cube), i + d = 6 → Inv l o → n < o.length → o.getD n z71 = c0 → Both (fun k => impl_connectedCubes.l1 k l o (n : Int) (nbs c0) ((nbs c0).length : Int) (i : Int)) (fun k => spec_l09Connected.l1 k l o (n : Int) (i : Int)) := by
  intro d
  have h6 : ((nbs c0).length : Int) = 6 := rfl
  induction d with
  | zero =>
    intro i o hi hI hn he
    have hle := hI.le
    refine Both.stepl (fun k => rfl) (Both.stepr (fun k => rfl) ?_)
    simp only [impl_connectedCubes.l1, spec_l09Connected.l1]
    refine Both.nl (by omega) (Both.nr (by omega) ?_)
    rw [wrap_succ (n := o.length) hn (by omega)]
    exact cont o hI hn
  | succ d ih =>
    intro i o hi hI hn he
    have hle := hI.le
    refine Both.stepl (fun k => rfl) (Both.stepr (fun k => rfl) ?_)
    simp only [impl_connectedCubes.l1, spec_l09Connected.l1]
    refine Both.pl (by omega) (Both.pl (by omega) (Both.pl (by omega) (Both.pr (by omega) (Both.pr ⟨by omega, by omega, by omega⟩ ?_))))
    have hst : (stepL.length : Int) = 6 := rfl
    rw [wrap_succ (i := i) (n := 6) (by omega) (by omega)]
    have e1 : rd_T71 (nbs c0) (i : Int) = addS c0 (stepL.getD i z71) := by rw [rdQ]; exact nbs_at hc0 i (by omega)
    have e2 : addS (rd_T71 o (n : Int)) (rd_T71 stepL (i : Int)) = addS c0 (stepL.getD i z71) := by rw [rdQ, rdQ, he]
    simp only [e1, e2]
    generalize addS c0 (stepL.getD i z71) = c
    refine Both.bindl (contains_eq l _ _ _ (by omega)) (Both.bindr (l09Index_eq l _ _ _ (by omega)) ?_)
    cases h1 : hasC l c.f0 c.f1 c.f2 with
    | false =>
      have := ixQ_neg h1
      exact Both.nl (by simp) (Both.nr (by omega) (ih (i + 1) o (by omega) hI hn he))
    | true =>
      refine Both.pl rfl (Both.pr (ixQ_pos h1) ?_)
      refine Both.bindl (contains_eq o _ _ _ (by omega)) (Both.bindr (l09Index_eq o _ _ _ (by omega)) ?_)
      cases h2 : hasC o c.f0 c.f1 c.f2 with
      | true =>
        have := ixQ_pos h2
        exact Both.pl rfl (Both.nr (by omega) (ih (i + 1) o (by omega) hI hn he))
      | false =>
        have hm : c ∉ o := fun h => by rw [hasC_mem.2 h] at h2; cases h2
        refine Both.nl (by simp) (Both.pl (by omega) (Both.pr (ixQ_neg h2) (Both.pr (by omega) ?_)))
        refine ih (i + 1) (o ++ [c]) (by omega) (hI.snoc (hasC_mem.1 h1) hm) (by simp; omega) ?_
        rw [← he]
        simp [List.getD_eq_getElem?_getD, List.getElem?_append_left hn]
theorem conn_outer {l : List Cube} (hl : l.length ≤ 24) (hco : ∀ c ∈ l, coQ c = true) : ∀ (d n : Nat) (o : List Cube), l.length - n = d → n ≤ o.length → Inv l o → Both (fun k => impl_connectedCubes.l0 k l o (n : Int)) (fun k => spec_l09Connected.l0 k l o (n : Int)) := by
  intro d
  induction d using Nat.strongRecOn with
  | _ d ih =>
    intro n o hd hn hI
    have hle := hI.le
    refine Both.stepl (fun k => rfl) (Both.stepr (fun k => rfl) ?_)
    simp only [impl_connectedCubes.l0, spec_l09Connected.l0]
    by_cases h : n < o.length
    · refine Both.pl (by omega) (Both.pl (by omega) (Both.pr (by omega) (Both.pr (by omega) ?_)))
      simp only [rdQ, around_eq, Option.bind_some]
      refine conn_inner hl (hco _ (hI.1 _ (qmem o n _ h))) (fun o' hI' hn' => ih (l.length - (n + 1)) (by omega) (n + 1) o' rfl (by omega) hI') 6 0 o rfl hI h rfl
    · refine Both.nl (by omega) (Both.nr (by omega) Both.pure)
theorem conn_both {l : List Cube} (h : So l = true) : Both (fun k => impl_connectedCubes.f k l) (fun k => spec_l09Connected.f k l) := by
  obtain ⟨_, h1, h2⟩ := So_iff.1 h
  unfold impl_connectedCubes.f spec_l09Connected.f
  refine Both.pl (by omega) (Both.pr (by omega) ?_)
  have e : rd_T71 l 0 = l.getD 0 z71 := rdQ l 0
  rw [e]
  refine conn_outer h2 (So_co h) l.length 0 [l.getD 0 z71] rfl (by simp) ⟨fun c hc => ?_, by simp⟩
  rw [List.mem_singleton.1 hc]
  exact qmem l 0 _ (by omega)
noncomputable def conQ (l : List Cube) : Bool := @dite Bool (∃ r, Evt (fun k => impl_connectedCubes.f k l) r ∧ Evt (fun k => spec_l09Connected.f k l) r) (Classical.propDecidable _) (fun h => Classical.choose h) (fun _ => false)
theorem conQ_eq {l : List Cube} (h : So l = true) : Evt (fun k => impl_connectedCubes.f k l) (conQ l) ∧ Evt (fun k => spec_l09Connected.f k l) (conQ l) := by
  have hb := conn_both h
  unfold conQ
  rw [dif_pos (show ∃ r, Evt (fun k => impl_connectedCubes.f k l) r ∧ Evt (fun k => spec_l09Connected.f k l) r from hb)]
  exact Classical.choose_spec (p := fun r => Evt (fun k => impl_connectedCubes.f k l) r ∧ Evt (fun k => spec_l09Connected.f k l) r) hb
end Go.Proofs.Ytjgnlakgojookaa.Pure
end
section
namespace Go.Proofs.Ytjgnlakgojookaa.Pure
open Go.RowKit Go.Proofs.Ytjgnlakgojookaa Go.Proofs.Ytjgnlakgojookaa.Q Go.Proofs.YtjgnlakgojookaaW.PrintWords
set_option linter.unusedVariables false
set_option linter.unusedSimpArgs false
abbrev LCube := S79
def toQ (c : LCube) : Cube := ⟨c.f0, c.f1, c.f2⟩
def toQs (l : List LCube) : List Cube := l.map toQ
def toQss (l : List (List LCube)) : List (List Cube) := l.map toQs
theorem toQs_len (l : List LCube) : (toQs l).length = l.length := by simp [toQs]
theorem toQss_len (l : List (List LCube)) : (toQss l).length = l.length := by simp [toQss]
theorem rdLQ (l : List LCube) (i : Nat) : rd_T79 l (i : Int) = l.getD i z79 := by simp [rd_T79]
theorem rdLQ2 (l : List (List LCube)) (i : Nat) : rd_L2 l (i : Int) = l.getD i [] := by simp [rd_L2]
def szs (β : Type) : Int → List (List β) → Int
  | t, [] => t
  | t, c :: r => if t - c.length < 0 then -1 else szs β (t - c.length) r
theorem szs_le {β : Type} : ∀ (l : List (List β)) (t : Int), 0 ≤ t → 0 ≤ szs β t l → (∀ c ∈ l, (c.length : Int) ≤ t) ∧ szs β t l ≤ t
  | [], _, _, h => ⟨fun _ h => (by cases h), Int.le_refl _⟩
  | c :: r, t, h0, h => by
    unfold szs at h ⊢
    by_cases h1 : t - c.length < 0
    · rw [if_pos h1] at h; omega
    · rw [if_neg h1] at h ⊢
      have ih := szs_le r _ (by omega) h
      refine ⟨fun d hd => ?_, by have := ih.2; omega⟩
      rcases List.mem_cons.1 hd with rfl | hd
      · omega
      · have := ih.1 d hd; omega
theorem szCubeS_eq (l : List LCube) (t : Int) (h0 : 0 ≤ t) (h1 : t ≤ 1000000000) (hl : l.length ≤ maxLen) : laws_szCubeS.f l t = some (if t - l.length < 0 then -1 else t - l.length) := by
  unfold maxLen at hl
  unfold laws_szCubeS.f
  rw [w64 (by omega) (by omega)]
  split <;> rfl
theorem szCubeSS_eq (cs : List (List LCube)) (a : Int) (ha0 : 0 ≤ a) (ha : a ≤ 1000000000) (hl : cs.length ≤ maxLen) (hc : ∀ c ∈ cs, c.length ≤ maxLen) : Evt (fun k => laws_szCubeSS.f k cs a) (if a - cs.length < 0 then -1 else szs LCube (a - cs.length) cs) := by
  unfold maxLen at hl
  unfold laws_szCubeSS.f
  rw [w64 (by omega) (by omega)]
  by_cases h : a - (cs.length : Int) < 0
  · rw [if_pos h]
    exact Evt.ite_pos h Evt.pure
  · rw [if_neg h]
    refine Evt.ite_neg h ?_
    refine Evt.upS (g := fun k i t => laws_szCubeSS.l0 k cs t (i : Int)) (R := fun i t => szs LCube t (cs.drop i)) (P := fun _ t => 0 ≤ t ∧ t ≤ 1000000000) (n := cs.length) ?_ ?_ 0 _ (Nat.zero_le _) ⟨by omega, by omega⟩
    · rintro t _
      refine Evt.step (fun k => rfl) ?_
      simp only [laws_szCubeSS.l0]
      rw [List.drop_length]
      exact Evt.ite_neg (by omega) Evt.pure
    · rintro i t hi ⟨ht0, ht1⟩ ih
      have hci := hc _ (qmem cs i [] hi)
      refine Evt.step (fun k => rfl) ?_
      simp only [laws_szCubeSS.l0, rdLQ2, szCubeS_eq _ t ht0 ht1 hci, Option.bind_some]
      refine Evt.ite_pos (by omega) (Evt.ite_pos (by omega) ?_)
      rw [wrap_succ hi (by omega), qdrop cs i [] hi]
      unfold szs
      by_cases h2 : t - ((cs.getD i []).length : Int) < 0
      · rw [if_pos h2, if_pos h2]
        exact Evt.ite_pos (by omega) Evt.pure
      · rw [if_neg h2, if_neg h2]
        exact Evt.ite_neg h2 (ih _ ⟨by omega, by omega⟩)
def LQ {β : Type} (l : List (List β)) : Prop := l.length ≤ 1048576 ∧ ∀ c ∈ l, c.length ≤ 1048576
theorem szAssembly_eq (cs : List (List LCube)) (a : Int) (ha0 : 0 ≤ a) (ha : a ≤ 1048576) (hl : cs.length ≤ maxLen) (hc : ∀ c ∈ cs, c.length ≤ maxLen) : ∃ r, Evt (fun k => laws_szAssembly.f k cs a) r ∧ (0 ≤ r → LQ cs ∧ r ≤ a) := by
  have hs := szCubeSS_eq cs a ha0 (by omega) hl hc
  generalize hb : (if a - (cs.length : Int) < 0 then (-1 : Int) else szs LCube (a - (cs.length : Int)) cs) = b at hs
  unfold laws_szAssembly.f
  by_cases hneg : b < 0
  · exact ⟨-1, hs.bind (Evt.ite_pos hneg Evt.pure), fun h => by omega⟩
  · refine ⟨b, hs.bind (Evt.ite_neg hneg Evt.pure), fun _ => ?_⟩
    by_cases h0 : a - (cs.length : Int) < 0
    · rw [if_pos h0] at hb; omega
    · rw [if_neg h0] at hb
      have h3 := szs_le cs (a - (cs.length : Int)) (by omega) (by rw [hb]; omega)
      refine ⟨⟨by omega, fun c hc => ?_⟩, by have := h3.2; rw [hb] at this; omega⟩
      have := h3.1 c hc
      omega
theorem setTakeQ {α : Type} (l acc : List α) (i : Nat) (hi : i < l.length) (hl : acc.length = l.length) (h : acc.take i = l.take i) : (acc.set i l[i]).take (i + 1) = l.take (i + 1) := by
  apply List.ext_getElem?
  intro j
  have h3 := congrArg (fun z => z[j]?) h
  simp only [List.getElem?_take] at h3 ⊢
  by_cases hj : j < i
  · rw [if_pos (by omega)] at h3 ⊢
    rw [if_pos (by omega)] at h3 ⊢
    rw [List.getElem?_set_ne (by omega)]
    exact h3
  · by_cases hj2 : j = i
    · subst hj2
      rw [if_pos (by omega), if_pos (by omega), List.getElem?_set_self (by omega), List.getElem?_eq_getElem hi]
    · rw [if_neg (by omega), if_neg (by omega)]
theorem toCubeS_eq (l : List LCube) (hl : l.length ≤ 1048576) : Evt (fun k => laws_toCubeS.f k l) (toQs l) := by
  unfold laws_toCubeS.f
  refine Evt.ite_pos (by omega) (Evt.ite_pos (by omega) ?_)
  refine Evt.upS (g := fun k i acc => laws_toCubeS.l0 k l acc (i : Int)) (R := fun _ _ => toQs l) (P := fun i acc => acc.length = (toQs l).length ∧ acc.take i = (toQs l).take i) (n := l.length) ?_ ?_ 0 _ (Nat.zero_le _) ⟨by simp [toQs], by simp⟩
  · rintro acc ⟨h1, h2⟩
    refine Evt.step (fun k => rfl) ?_
    simp only [laws_toCubeS.l0]
    refine Evt.ite_neg (by omega) ?_
    rw [toQs_len] at h1
    rw [List.take_of_length_le (by omega), List.take_of_length_le (by rw [toQs_len]; omega)] at h2
    rw [h2]
    exact Evt.pure
  · rintro i acc hi ⟨h1, h2⟩ ih
    refine Evt.step (fun k => rfl) ?_
    have hl2 := toQs_len l
    simp only [laws_toCubeS.l0, laws_toCube.f, Option.bind_some, rdLQ]
    refine Evt.ite_pos (by omega) (Evt.ite_pos (by omega) (Evt.ite_pos (by omega) ?_))
    rw [wrap_succ hi (by omega), Int.toNat_natCast]
    refine ih _ ⟨by simpa using h1, ?_⟩
    have h3 := setTakeQ (toQs l) acc i (by omega) h1 h2
    have e : (toQs l)[i]'(by omega) = ⟨(l.getD i z79).f0, (l.getD i z79).f1, (l.getD i z79).f2⟩ := by
      rw [qgd l i _ hi]
      simp [toQs, toQ]
    rw [e] at h3
    exact h3
theorem toCubeSS_eq (l : List (List LCube)) (h : LQ l) : Evt (fun k => laws_toCubeSS.f k l) (toQss l) := by
  have hl := h.1
  unfold laws_toCubeSS.f
  refine Evt.ite_pos (by omega) (Evt.ite_pos (by omega) ?_)
  refine Evt.upS (g := fun k i acc => laws_toCubeSS.l0 k l acc (i : Int)) (R := fun _ _ => toQss l) (P := fun i acc => acc.length = (toQss l).length ∧ acc.take i = (toQss l).take i) (n := l.length) ?_ ?_ 0 _ (Nat.zero_le _) ⟨by simp [toQss], by simp⟩
  · rintro acc ⟨h1, h2⟩
    refine Evt.step (fun k => rfl) ?_
    simp only [laws_toCubeSS.l0]
    refine Evt.ite_neg (by omega) ?_
    rw [toQss_len] at h1
    rw [List.take_of_length_le (by omega), List.take_of_length_le (by rw [toQss_len]; omega)] at h2
    rw [h2]
    exact Evt.pure
  · rintro i acc hi ⟨h1, h2⟩ ih
    refine Evt.step (fun k => rfl) ?_
    have hl2 := toQss_len l
    simp only [laws_toCubeSS.l0, rdLQ2]
    refine Evt.ite_pos (by omega) (Evt.ite_pos (by omega) ?_)
    refine (toCubeS_eq _ (h.2 _ (qmem l i [] hi))).bind (Evt.ite_pos (by omega) ?_)
    rw [wrap_succ hi (by omega), Int.toNat_natCast]
    refine ih _ ⟨by simpa using h1, ?_⟩
    have h3 := setTakeQ (toQss l) acc i (by omega) h1 h2
    have e : (toQss l)[i]'(by omega) = toQs (l.getD i []) := by
      rw [qgd l i _ hi]
      simp [toQss]
    rw [e] at h3
    exact h3
theorem toAssembly_eq (l : List (List LCube)) (h : LQ l) : Evt (fun k => laws_toAssembly.f k l) (toQss l) := by
  unfold laws_toAssembly.f
  exact (toCubeSS_eq l h).bind Evt.pure
theorem LQ.to {l : List (List LCube)} (h : LQ l) : LQ (toQss l) := by
  refine ⟨by rw [toQss_len]; exact h.1, fun c hc => ?_⟩
  obtain ⟨d, hd, rfl⟩ := List.mem_map.1 hc
  rw [toQs_len]
  exact h.2 d hd
theorem eqCubeS_refl (l : List Cube) (hl : l.length ≤ 1048576) : Evt (fun k => laws_eqCubeS.f k l l) true := by
  unfold laws_eqCubeS.f
  refine Evt.ite_pos rfl ?_
  refine Evt.up (g := fun k i => laws_eqCubeS.l0 k l l (i : Int)) (R := fun _ => true) (n := l.length) ?_ ?_ 0 (Nat.zero_le _)
  · refine Evt.step (fun k => rfl) ?_
    simp only [laws_eqCubeS.l0]
    exact Evt.ite_neg (by omega) Evt.pure
  · intro i hi ih
    refine Evt.step (fun k => rfl) ?_
    simp only [laws_eqCubeS.l0, laws_eqCube.f, if_true, Option.bind_some]
    refine Evt.ite_pos (by omega) (Evt.ite_pos (by omega) (Evt.ite_pos (by omega) ?_))
    rw [wrap_succ hi (by omega)]
    exact ih
theorem eqCubeSS_refl (l : List (List Cube)) (h : LQ l) : Evt (fun k => laws_eqCubeSS.f k l l) true := by
  have hl := h.1
  unfold laws_eqCubeSS.f
  refine Evt.ite_pos rfl ?_
  refine Evt.up (g := fun k i => laws_eqCubeSS.l0 k l l (i : Int)) (R := fun _ => true) (n := l.length) ?_ ?_ 0 (Nat.zero_le _)
  · refine Evt.step (fun k => rfl) ?_
    simp only [laws_eqCubeSS.l0]
    exact Evt.ite_neg (by omega) Evt.pure
  · intro i hi ih
    refine Evt.step (fun k => rfl) ?_
    simp only [laws_eqCubeSS.l0, rdQ4]
    refine Evt.ite_pos (by omega) (Evt.ite_pos (by omega) (Evt.ite_pos (by omega) ?_))
    refine (eqCubeS_refl _ (h.2 _ (qmem l i [] hi))).bind (Evt.ite_pos rfl ?_)
    rw [wrap_succ hi (by omega)]
    exact ih
theorem eqAssembly_refl (l : List (List Cube)) (h : LQ l) : Evt (fun k => laws_eqAssembly.f k l l) true := by
  unfold laws_eqAssembly.f
  exact (eqCubeSS_refl l h).bind (Evt.ite_pos rfl Evt.pure)
def meetQ (a b : List Cube) : Bool := a.any fun q => hasC b q.f0 q.f1 q.f2
theorem l27Meet_eq (a b : List Cube) (ha : a.length ≤ 1048576) (hb : b.length ≤ 1048576) : Evt (fun k => spec_l27Meet.f k a b) (meetQ a b) := by
  unfold spec_l27Meet.f
  refine Evt.up (g := fun k i => spec_l27Meet.l0 k a b (i : Int)) (R := fun i => meetQ (a.drop i) b) (n := a.length) ?_ ?_ 0 (Nat.zero_le _)
  · refine Evt.step (fun k => rfl) ?_
    simp only [spec_l27Meet.l0]
    rw [List.drop_length]
    exact Evt.ite_neg (by omega) Evt.pure
  · intro i hi ih
    refine Evt.step (fun k => rfl) ?_
    simp only [spec_l27Meet.l0, rdQ]
    refine Evt.ite_pos (by omega) (Evt.ite_pos (by omega) ?_)
    refine (l09Index_eq b _ _ _ (by omega)).bind ?_
    rw [wrap_succ hi (by omega), qdrop a i z71 hi]
    unfold meetQ
    rw [List.any_cons]
    cases h : hasC b (a.getD i z71).f0 (a.getD i z71).f1 (a.getD i z71).f2
    · rw [Bool.false_or]
      exact Evt.ite_neg (by have := ixQ_neg h; omega) ih
    · exact Evt.ite_pos (ixQ_pos h) Evt.pure
theorem inL_iff {lo hi : Int} {c : Cube} : inL lo hi c = true ↔ (lo ≤ c.f0 ∧ c.f0 ≤ hi) ∧ (lo ≤ c.f1 ∧ c.f1 ≤ hi) ∧ (lo ≤ c.f2 ∧ c.f2 ≤ hi) := by
  unfold inL insC
  simp [and_assoc]
noncomputable def partQ (p : List Cube) : Bool := So p && (conQ p && p.all (inL 0 7))
theorem one_eq (p : List Cube) (hp : p.length ≤ 1048576) : Evt (fun k => impl_IsAssembly.one k p) (partQ p) := by
  unfold impl_IsAssembly.one partQ
  refine (isSolid_eq p (by omega)).bind ?_
  cases hS : So p
  · exact Evt.ite_neg (by simp) Evt.pure
  · refine Evt.ite_pos rfl ((conQ_eq hS).1.bind ?_)
    cases hC : conQ p
    · exact Evt.ite_neg (by simp) Evt.pure
    · refine Evt.ite_pos rfl ?_
      rw [Bool.true_and, Bool.true_and]
      exact Evt.pure
theorem parts_eq : ∀ (l : List (List Cube)), (∀ c ∈ l, c.length ≤ 1048576) → Evt (fun k => impl_IsAssembly.parts k l) (l.all partQ)
  | [], _ => Evt.of_eq (fun k => rfl) Evt.pure
  | p :: r, h => by
    have ih := parts_eq r (fun d hd => h d (List.mem_cons_of_mem _ hd))
    refine Evt.of_eq (fun k => rfl) ((one_eq p (h p List.mem_cons_self)).bind ?_)
    rw [List.all_cons]
    cases e : partQ p
    · exact Evt.ite_neg (by simp) Evt.pure
    · rw [Bool.true_and]
      exact Evt.ite_pos rfl ih
def apartQ (l : List (List Cube)) (i : Nat) : Bool := allF (fun k => !meetQ (l.getD i []) (l.getD k [])) i 0
noncomputable def asmOk (l : List (List Cube)) (i : Nat) : Bool := partQ (l.getD i []) && apartQ l i
noncomputable def asm (l : List (List Cube)) : Bool := decide (2 ≤ (l.length : Int) ∧ (l.length : Int) ≤ 4) && allF (asmOk l) l.length 0
theorem isAssembly_spec (l : List (List Cube)) (h : LQ l) : Evt (fun k => spec_IsAssembly.f k l) (asm l) := by
  have hl := h.1
  unfold spec_IsAssembly.f asm
  simp only [in_eq, Option.bind_some]
  by_cases c : 2 ≤ (l.length : Int) ∧ (l.length : Int) ≤ 4
  case neg =>
    simp only [c, decide_false, Bool.false_and]
    exact Evt.ite_neg (by simp) Evt.pure
  simp only [c, decide_true, Bool.true_and, and_self]
  refine Evt.ite_pos trivial ?_
  refine Evt.up (g := fun k i => spec_IsAssembly.l0 k (i : Int) l) (R := fun i => allF (asmOk l) l.length i) (n := l.length) ?_ ?_ 0 (Nat.zero_le _)
  · refine Evt.step (fun k => rfl) ?_
    simp only [spec_IsAssembly.l0]
    rw [allF_end]
    exact Evt.ite_neg (by omega) Evt.pure
  · intro i hi ih
    rw [allF_succ _ hi]
    have hp := h.2 _ (qmem l i [] hi)
    refine Evt.step (fun k => rfl) ?_
    simp only [spec_IsAssembly.l0, rdQ4]
    refine Evt.ite_pos (by omega) (Evt.ite_pos (by omega) ((l09Solid_eq _ (by omega)).bind ?_))
    have hoff : ∀ b, asmOk l i = b → b = false → Evt (fun k => spec_IsAssembly.j1 k (i : Int) true l) (b && allF (asmOk l) l.length (i + 1)) := by
      rintro b _ rfl
      refine Evt.step (fun k => rfl) ?_
      simp only [spec_IsAssembly.j1]
      exact Evt.ite_pos trivial Evt.pure
    cases hS : So (l.getD i []) with
    | false =>
      refine Evt.ite_neg (by simp) (hoff _ rfl ?_)
      unfold asmOk partQ
      rw [hS]; rfl
    | true =>
      refine Evt.ite_pos rfl ((conQ_eq hS).2.bind ?_)
      cases hC : conQ (l.getD i []) with
      | false =>
        refine hoff _ rfl ?_
        unfold asmOk partQ
        rw [hS, hC]; rfl
      | true =>
        have e : asmOk l i = ((l.getD i []).all (inL 0 7) && apartQ l i) := by unfold asmOk partQ; rw [hS, hC, Bool.true_and, Bool.true_and]
        rw [e]
        clear e hoff
        refine Evt.step (fun k => rfl) ?_
        simp only [spec_IsAssembly.j1]
        refine Evt.ite_neg (by simp) ?_
        -- the coordinates, then the parts before
        have h2 : Evt (fun k => spec_IsAssembly.l2 k (i : Int) 0 l) (apartQ l i && allF (asmOk l) l.length (i + 1)) := by
          unfold apartQ
          refine Evt.up (g := fun k j => spec_IsAssembly.l2 k (i : Int) (j : Int) l) (R := fun j => allF (fun k => !meetQ (l.getD i []) (l.getD k [])) i j && allF (asmOk l) l.length (i + 1)) (n := i) ?_ ?_ 0 (Nat.zero_le _)
          · refine Evt.step (fun k => rfl) ?_
            simp only [spec_IsAssembly.l2]
            refine Evt.ite_neg (by omega) ?_
            rw [allF_end, Bool.true_and, wrap_succ hi (by omega)]
            exact ih
          · intro j hj ihj
            refine Evt.step (fun k => rfl) ?_
            simp only [spec_IsAssembly.l2, rdQ4]
            refine Evt.ite_pos (by omega) (Evt.ite_pos (by omega) (Evt.ite_pos (by omega) (Evt.ite_pos (by omega) (Evt.ite_pos (by omega) ?_))))
            refine (l27Meet_eq _ _ hp (h.2 _ (qmem l j [] (by omega)))).bind ?_
            rw [allF_succ _ hj, wrap_succ hj (by omega)]
            cases hm : meetQ (l.getD i []) (l.getD j [])
            · exact Evt.ite_neg (by simp) (by simpa using ihj)
            · exact Evt.ite_pos rfl Evt.pure
        refine Evt.up (g := fun k j => spec_IsAssembly.l1 k (i : Int) (j : Int) l) (R := fun j => ((l.getD i []).drop j).all (inL 0 7) && apartQ l i && allF (asmOk l) l.length (i + 1)) (n := (l.getD i []).length) ?_ ?_ 0 (Nat.zero_le _)
        · refine Evt.step (fun k => rfl) ?_
          simp only [spec_IsAssembly.l1, rdQ4]
          refine Evt.ite_pos (by omega) (Evt.ite_pos (by omega) (Evt.ite_neg (by omega) ?_))
          rw [List.drop_length, List.all_nil, Bool.true_and]
          exact h2
        · intro j hj ihj
          refine Evt.step (fun k => rfl) ?_
          simp only [spec_IsAssembly.l1, rdQ4, rdQ, in_eq, Option.bind_some]
          refine Evt.ite_pos (by omega) (Evt.ite_pos (by omega) (Evt.ite_pos (by omega) (Evt.ite_pos (by omega) ?_)))
          rw [qdrop (l.getD i []) j z71 hj, List.all_cons, wrap_succ hj (by omega)]
          generalize (l.getD i []).getD j z71 = q
          by_cases h1 : 0 ≤ q.f0 ∧ q.f0 ≤ 7
          · refine Evt.ite_pos (by simpa using h1) ?_
            by_cases h2 : 0 ≤ q.f1 ∧ q.f1 ≤ 7
            · refine Evt.ite_pos (by simpa using h2) ?_
              by_cases h3 : 0 ≤ q.f2 ∧ q.f2 ≤ 7
              · refine Evt.ite_pos (by simpa using h3) ?_
                rw [inL_iff.2 ⟨h1, h2, h3⟩, Bool.true_and]
                exact ihj
              · rw [show inL 0 7 q = false from Bool.eq_false_iff.mpr (fun hh => h3 (inL_iff.1 hh).2.2)]
                exact Evt.ite_neg (by simpa using h3) Evt.pure
            · rw [show inL 0 7 q = false from Bool.eq_false_iff.mpr (fun hh => h2 (inL_iff.1 hh).2.1)]
              exact Evt.ite_neg (by simpa using h2) Evt.pure
          · rw [show inL 0 7 q = false from Bool.eq_false_iff.mpr (fun hh => h1 (inL_iff.1 hh).1)]
            exact Evt.ite_neg (by simpa using h1) Evt.pure
theorem hit_zero (a b : List Cube) (hb : ∀ c ∈ b, coQ c = true) : hitC a b 0 0 0 = meetQ b a := by
  unfold hitC meetQ
  induction b with
  | nil => rfl
  | cons q r ih =>
    rw [List.any_cons, List.any_cons, ih (fun c hc => hb c (List.mem_cons_of_mem _ hc))]
    obtain ⟨h0, h1, h2⟩ := coQ_iff.1 (hb q List.mem_cons_self)
    rw [show wrap64 (q.f0 + 0) = q.f0 by unfold wrap64; omega, show wrap64 (q.f1 + 0) = q.f1 by unfold wrap64; omega, show wrap64 (q.f2 + 0) = q.f2 by unfold wrap64; omega]
theorem touch_zero (l : List (List Cube)) (i j : Nat) (hb : ∀ c ∈ l.getD j [], coQ c = true) : touchC l (i : Int) (j : Int) 0 0 0 = meetQ (l.getD j []) (l.getD i []) := by
  unfold touchC
  rw [prtN, prtN, hit_zero _ _ hb]
  rfl
theorem alone_zero (l : List (List Cube)) (i : Nat) (hb : ∀ c ∈ l.getD i [], coQ c = true) : ∀ (d j : Nat), j + d = i → aloneG l (i : Int) 0 0 0 j (zeroC d) = allF (fun k => !meetQ (l.getD i []) (l.getD k [])) i j
  | 0, j, h => by
    obtain rfl : j = i := by omega
    rw [allF_end]
    rfl
  | d + 1, j, h => by
    have ih := alone_zero l i hb d (j + 1) (by omega)
    rw [allF_succ _ (by omega), ← ih]
    show ((((j : Int) == (i : Int)) || !touchC l j i (wrap64 (0 - 0)) (wrap64 (0 - 0)) (wrap64 (0 - 0))) && aloneG l (i : Int) 0 0 0 (j + 1) (zeroC d)) = _
    rw [show wrap64 ((0 : Int) - 0) = 0 by unfold wrap64; omega, touch_zero l j i hb, show ((j : Int) == (i : Int)) = false by simp; omega, Bool.false_or]
theorem clear_zeroQ (l : List (List Cube)) (n : Nat) (hb : ∀ i, i < n → ∀ c ∈ l.getD i [], coQ c = true) : ∀ (d i : Nat), i + d = n → clearG l (zeroC n) i (zeroC d) = allF (apartQ l) n i
  | 0, i, h => by
    obtain rfl : i = n := by omega
    rw [allF_end]
    rfl
  | d + 1, i, h => by
    have ih := clear_zeroQ l n hb d (i + 1) (by omega)
    rw [allF_succ _ (by omega), ← ih]
    show (aloneG l (i : Int) 0 0 0 0 ((zeroC n).take i) && clearG l (zeroC n) (i + 1) (zeroC d)) = _
    have e : (zeroC n).take i = zeroC i := by
      unfold zeroC
      rw [List.take_replicate, Nat.min_eq_left (by omega)]
    rw [e, alone_zero l i (hb i (by omega)) i 0 (by omega)]
    rfl
theorem isAssembly_impl (l : List (List Cube)) (h : LQ l) : Evt (fun k => impl_IsAssembly.f k l) (asm l) := by
  have hl := h.1
  unfold impl_IsAssembly.f asm
  by_cases c1 : (l.length : Int) < 2
  · rw [show decide (2 ≤ (l.length : Int) ∧ (l.length : Int) ≤ 4) = false by simp; omega]
    exact Evt.ite_pos c1 Evt.pure
  · refine Evt.ite_neg c1 ?_
    by_cases c2 : (l.length : Int) > 4
    · rw [show decide (2 ≤ (l.length : Int) ∧ (l.length : Int) ≤ 4) = false by simp; omega]
      exact Evt.ite_pos c2 Evt.pure
    · refine Evt.ite_neg c2 ((parts_eq l h.2).bind ?_)
      rw [show decide (2 ≤ (l.length : Int) ∧ (l.length : Int) ≤ 4) = true by simp; omega, Bool.true_and]
      cases hP : l.all partQ with
      | false =>
        have e : allF (asmOk l) l.length 0 = false := by
          apply Bool.eq_false_iff.mpr
          intro hh
          have h1 := allF_true.1 hh
          have : l.all partQ = true := by
            rw [List.all_eq_true]
            intro p hp
            obtain ⟨i, hi, rfl⟩ := List.getElem_of_mem hp
            have h2 := h1 i (Nat.zero_le _) hi
            unfold asmOk at h2
            rw [qgd l i _ hi] at h2
            exact (Bool.and_eq_true_iff.1 h2).1
          rw [hP] at this
          cases this
        rw [e]
        exact Evt.ite_neg (by simp) Evt.pure
      | true =>
        have hp := List.all_eq_true.1 hP
        have hco : ∀ i, i < l.length → ∀ c ∈ l.getD i [], coQ c = true := by
          intro i hi
          have h1 := hp _ (qmem l i [] hi)
          unfold partQ at h1
          exact So_co (Bool.and_eq_true_iff.1 h1).1
        refine Evt.ite_pos rfl (Evt.const ?_)
        congr 1
        rw [clear_zeroQ l l.length hco l.length 0 (by omega)]
        rw [Bool.eq_iff_iff, allF_true, allF_true]
        constructor
        · intro h1 j h2 h3
          unfold asmOk
          rw [hp _ (qmem l j [] h3), Bool.true_and]
          exact h1 j h2 h3
        · intro h1 j h2 h3
          have h4 := h1 j h2 h3
          unfold asmOk at h4
          exact (Bool.and_eq_true_iff.1 h4).2
end Go.Proofs.Ytjgnlakgojookaa.Pure
end
section
namespace Go.Proofs.Ytjgnlakgojookaa.Pure
open Go.RowKit Go.Proofs.Ytjgnlakgojookaa Go.Proofs.Ytjgnlakgojookaa.Q Go.Proofs.YtjgnlakgojookaaW.PrintWords
set_option linter.unusedVariables false
set_option linter.unusedSimpArgs false
def sm (B : Int) (c : Cube) : Prop := (-B ≤ c.f0 ∧ c.f0 ≤ B) ∧ (-B ≤ c.f1 ∧ c.f1 ≤ B) ∧ (-B ≤ c.f2 ∧ c.f2 ≤ B)
theorem sm.mono {B C : Int} {c : Cube} (h : sm B c) (hB : B ≤ C) : sm C c := by
  unfold sm at h ⊢
  omega
theorem addS_sm {B C : Int} {a b : Cube} (ha : sm B a) (hb : sm C b) (h : B + C ≤ 1000000) : sm (B + C) (addS a b) ∧ (addS a b).f0 = a.f0 + b.f0 ∧ (addS a b).f1 = a.f1 + b.f1 ∧ (addS a b).f2 = a.f2 + b.f2 := by
  unfold sm at ha hb ⊢
  have e0 : (addS a b).f0 = a.f0 + b.f0 := by show wrap64 _ = _; unfold wrap64; omega
  have e1 : (addS a b).f1 = a.f1 + b.f1 := by show wrap64 _ = _; unfold wrap64; omega
  have e2 : (addS a b).f2 = a.f2 + b.f2 := by show wrap64 _ = _; unfold wrap64; omega
  rw [e0, e1, e2]
  omega
def movQ (p : List Cube) (v : Cube) : List Cube := p.map fun c => addS c v
theorem movQ_len (p : List Cube) (v : Cube) : (movQ p v).length = p.length := by simp [movQ]
theorem l09Move_eq (p : List Cube) (v : Cube) (hp : p.length ≤ 1048576) : Evt (fun k => spec_l09Move.f k p v.f0 v.f1 v.f2) (movQ p v) := by
  unfold spec_l09Move.f
  refine Evt.upS (g := fun k i acc => spec_l09Move.l0 k p acc (i : Int) v.f0 v.f1 v.f2) (R := fun i acc => acc ++ movQ (p.drop i) v) (P := fun i acc => acc.length = i) (n := p.length) ?_ ?_ 0 [] (Nat.zero_le _) rfl
  · rintro acc _
    refine Evt.step (fun k => rfl) ?_
    simp only [spec_l09Move.l0]
    rw [List.drop_length]
    refine Evt.ite_neg (by omega) ?_
    simp only [movQ, List.map_nil, List.append_nil]
    exact Evt.pure
  · rintro i acc hi ha ih
    refine Evt.step (fun k => rfl) ?_
    simp only [spec_l09Move.l0, rdQ, spec_l09Add.f, Option.bind_some]
    refine Evt.ite_pos (by omega) (Evt.ite_pos (by omega) (Evt.ite_pos (by omega) ?_))
    rw [wrap_succ hi (by omega), qdrop p i z71 hi]
    have h := ih (acc ++ [addS (p.getD i z71) v]) (by simp [ha])
    rw [List.append_assoc] at h
    exact h
theorem hasC_mov {p : List Cube} {v : Cube} {a b c : Int} : hasC (movQ p v) a b c = true ↔ ∃ r ∈ p, (addS r v).f0 = a ∧ (addS r v).f1 = b ∧ (addS r v).f2 = c := by
  unfold hasC movQ
  rw [List.any_eq_true]
  constructor
  · rintro ⟨q, hq, h⟩
    obtain ⟨r, hr, rfl⟩ := List.mem_map.1 hq
    simp at h
    exact ⟨r, hr, h.1.1, h.1.2, h.2⟩
  · rintro ⟨r, hr, h0, h1, h2⟩
    exact ⟨addS r v, List.mem_map_of_mem hr, by simp [h0, h1, h2]⟩
def box7 (p : List Cube) : Prop := ∀ c ∈ p, inL 0 7 c = true
theorem touch_meet {l : List (List Cube)} {i k : Nat} {a b : Cube} (hi : box7 (l.getD i [])) (hk : box7 (l.getD k [])) (ha : sm 100 a) (hb : sm 100 b) :
    touchC l (k : Int) (i : Int) (wrap64 (a.f0 - b.f0)) (wrap64 (a.f1 - b.f1)) (wrap64 (a.f2 - b.f2)) = meetQ (movQ (l.getD i []) a) (movQ (l.getD k []) b) := by
  have ea := ha
  have eb := hb
  unfold sm at ea eb
  rw [show wrap64 (a.f0 - b.f0) = a.f0 - b.f0 by unfold wrap64; omega, show wrap64 (a.f1 - b.f1) = a.f1 - b.f1 by unfold wrap64; omega, show wrap64 (a.f2 - b.f2) = a.f2 - b.f2 by unfold wrap64; omega]
  unfold touchC
  rw [prtN, prtN, Bool.eq_iff_iff, Bool.and_eq_true]
  unfold hitC meetQ
  rw [List.any_eq_true, List.any_eq_true]
  constructor
  · rintro ⟨_, q, hq, h⟩
    have hq7 := inL_iff.1 (hi q hq)
    have sq : sm 7 q := by unfold sm; omega
    have h1 := addS_sm sq ha (by omega)
    refine ⟨addS q a, List.mem_map_of_mem hq, hasC_mov.2 ?_⟩
    rw [show wrap64 (q.f0 + (a.f0 - b.f0)) = q.f0 + (a.f0 - b.f0) by unfold wrap64; omega, show wrap64 (q.f1 + (a.f1 - b.f1)) = q.f1 + (a.f1 - b.f1) by unfold wrap64; omega, show wrap64 (q.f2 + (a.f2 - b.f2)) = q.f2 + (a.f2 - b.f2) by unfold wrap64; omega] at h
    unfold hasC at h
    rw [List.any_eq_true] at h
    obtain ⟨r, hr, h2⟩ := h
    simp at h2
    have hr7 := inL_iff.1 (hk r hr)
    have sr : sm 7 r := by unfold sm; omega
    have h3 := addS_sm sr hb (by omega)
    refine ⟨r, hr, ?_, ?_, ?_⟩
    · rw [h3.2.1, h1.2.1]; omega
    · rw [h3.2.2.1, h1.2.2.1]; omega
    · rw [h3.2.2.2, h1.2.2.2]; omega
  · rintro ⟨x, hx, h⟩
    obtain ⟨q, hq, rfl⟩ := List.mem_map.1 hx
    have hq7 := inL_iff.1 (hi q hq)
    have sq : sm 7 q := by unfold sm; omega
    have h1 := addS_sm sq ha (by omega)
    obtain ⟨r, hr, e0, e1, e2⟩ := hasC_mov.1 h
    have hr7 := inL_iff.1 (hk r hr)
    have sr : sm 7 r := by unfold sm; omega
    have h3 := addS_sm sr hb (by omega)
    rw [h3.2.1, h1.2.1] at e0
    rw [h3.2.2.1, h1.2.2.1] at e1
    rw [h3.2.2.2, h1.2.2.2] at e2
    refine ⟨?_, q, hq, ?_⟩
    · unfold insC
      simp
      omega
    · rw [show wrap64 (q.f0 + (a.f0 - b.f0)) = q.f0 + (a.f0 - b.f0) by unfold wrap64; omega, show wrap64 (q.f1 + (a.f1 - b.f1)) = q.f1 + (a.f1 - b.f1) by unfold wrap64; omega, show wrap64 (q.f2 + (a.f2 - b.f2)) = q.f2 + (a.f2 - b.f2) by unfold wrap64; omega]
      unfold hasC
      rw [List.any_eq_true]
      refine ⟨r, hr, ?_⟩
      simp
      omega
structure Pts (l : List (List Cube)) : Prop where
  lo : 2 ≤ l.length
  hi : l.length ≤ 4
  len : ∀ i, i < l.length → (l.getD i []).length ≤ 24
  box : ∀ i, i < l.length → box7 (l.getD i [])
theorem asm_pts {l : List (List Cube)} (h : asm l = true) : Pts l := by
  unfold asm at h
  obtain ⟨h1, h2⟩ := Bool.and_eq_true_iff.1 h
  have h3 := of_decide_eq_true h1
  have h4 := allF_true.1 h2
  have hp : ∀ i, i < l.length → partQ (l.getD i []) = true := fun i hi => by
    have := h4 i (Nat.zero_le _) hi
    unfold asmOk at this
    exact (Bool.and_eq_true_iff.1 this).1
  refine ⟨by omega, by omega, fun i hi => ?_, fun i hi => ?_⟩
  · have := hp i hi
    unfold partQ at this
    exact (So_iff.1 (Bool.and_eq_true_iff.1 this).1).2.2
  · have := hp i hi
    unfold partQ at this
    exact List.all_eq_true.1 (Bool.and_eq_true_iff.1 (Bool.and_eq_true_iff.1 this).2).2
theorem aloneG_eq {l : List (List Cube)} {o : List Cube} {part : Nat} {a : Cube} (hP : Pts l) (hp : part < l.length) (ha : sm 100 a) (ho : ∀ c ∈ o, sm 100 c) (hol : o.length ≤ l.length) : ∀ (d j : Nat), j + d = o.length →
    aloneG l (part : Int) a.f0 a.f1 a.f2 j (o.drop j) = allF (fun k => ((k : Int) == (part : Int)) || !meetQ (movQ (l.getD part []) a) (movQ (l.getD k []) (o.getD k z71))) o.length j
  | 0, j, h => by
    obtain rfl : j = o.length := by omega
    rw [allF_end, List.drop_length]
    rfl
  | d + 1, j, h => by
    have ih := aloneG_eq hP hp ha ho hol d (j + 1) (by omega)
    rw [allF_succ _ (by omega), ← ih, qdrop o j z71 (by omega)]
    rw [aloneG]
    rw [touch_meet (hP.box part hp) (hP.box j (by omega)) ha (ho _ (qmem o j _ (by omega)))]
theorem clearG_eq {l : List (List Cube)} {o : List Cube} (hP : Pts l) (ho : ∀ c ∈ o, sm 100 c) (hol : o.length ≤ l.length) : ∀ (d j : Nat), j + d = o.length →
    clearG l o j (o.drop j) = allF (fun i => allF (fun k => !meetQ (movQ (l.getD i []) (o.getD i z71)) (movQ (l.getD k []) (o.getD k z71))) i 0) o.length j
  | 0, j, h => by
    obtain rfl : j = o.length := by omega
    rw [allF_end, List.drop_length]
    rfl
  | d + 1, j, h => by
    have ih := clearG_eq hP ho hol d (j + 1) (by omega)
    rw [allF_succ _ (by omega), ← ih, qdrop o j z71 (by omega)]
    rw [clearG]
    have h1 := aloneG_eq (l := l) (o := o.take j) (part := j) (a := o.getD j z71) hP (by omega) (ho _ (qmem o j _ (by omega))) (fun c hc => ho c (List.mem_of_mem_take hc)) (by rw [List.length_take]; omega) j 0 (by rw [List.length_take]; omega)
    rw [List.drop_zero] at h1
    rw [h1, List.length_take, Nat.min_eq_left (by omega)]
    congr 1
    rw [Bool.eq_iff_iff, allF_true, allF_true]
    have e : ∀ k, k < j → (o.take j).getD k z71 = o.getD k z71 := fun k hk => by
      simp [List.getD_eq_getElem?_getD, List.getElem?_take, hk]
    constructor
    · intro h k h2 h3
      have := h k h2 h3
      rw [e k h3, show ((k : Int) == (j : Int)) = false by simp; omega, Bool.false_or] at this
      exact this
    · intro h k h2 h3
      rw [e k h3, show ((k : Int) == (j : Int)) = false by simp; omega, Bool.false_or]
      exact h k h2 h3
theorem sm_of_in {o : List Cube} (h : o.all (inL (-12) 12) = true) : ∀ c ∈ o, sm 12 c := by
  intro c hc
  have := inL_iff.1 (List.all_eq_true.1 h c hc)
  unfold sm
  omega
def clrOk (l : List (List Cube)) (o : List Cube) (i : Nat) : Bool := inL (-12) 12 (o.getD i z71) && allF (fun k => !meetQ (movQ (l.getD i []) (o.getD i z71)) (movQ (l.getD k []) (o.getD k z71))) i 0
theorem l27Clear_eq {l : List (List Cube)} {o : List Cube} (hP : Pts l) (ho : o.length ≤ 1048576) : Evt (fun k => spec_l27Clear.f k l o) (offsC l o) := by
  have h4 := hP.hi
  unfold spec_l27Clear.f
  by_cases c : (o.length : Int) = (l.length : Int)
  · refine Evt.ite_pos c ?_
    obtain ⟨q, r, e⟩ : ∃ q r, o = q :: r := by
      cases o with
      | nil => have := hP.lo; simp at c; omega
      | cons q r => exact ⟨q, r, rfl⟩
    refine Evt.ite_pos (by have := hP.lo; omega) ?_
    have e0 : rd_T71 o 0 = q := by rw [e]; rfl
    rw [e0]
    have eo : offsC l o = ((q.f0 == 0 && (q.f1 == 0 && q.f2 == 0)) && (o.all (inL (-12) 12) && clearG l o 0 o)) := by
      rw [e] at c ⊢
      simp only [offsC]
      rw [decide_eq_true (by omega), Bool.true_and]
    rw [eo]
    refine Evt.step (fun k => rfl) ?_
    simp only [spec_l27Clear.j0]
    cases hz : (q.f0 == 0 && (q.f1 == 0 && q.f2 == 0)) with
    | false =>
      refine Evt.ite_pos ?_ Evt.pure
      cases h0 : q.f0 == 0 <;> cases h1 : q.f1 == 0 <;> cases h2 : q.f2 == 0 <;> simp_all
    | true =>
      refine Evt.ite_neg ?_ ?_
      · simp at hz
        simp [hz]
      rw [Bool.true_and]
      have key : (o.all (inL (-12) 12) && clearG l o 0 o) = allF (clrOk l o) o.length 0 := by
        cases hA : o.all (inL (-12) 12) with
        | false =>
          rw [Bool.false_and]
          symm
          apply Bool.eq_false_iff.mpr
          intro hh
          have h1 := allF_true.1 hh
          have : o.all (inL (-12) 12) = true := by
            rw [List.all_eq_true]
            intro p hp
            obtain ⟨i, hi, rfl⟩ := List.getElem_of_mem hp
            have h2 := h1 i (Nat.zero_le _) hi
            unfold clrOk at h2
            rw [qgd o i _ hi] at h2
            exact (Bool.and_eq_true_iff.1 h2).1
          rw [hA] at this
          cases this
        | true =>
          have hs := sm_of_in hA
          rw [Bool.true_and]
          have h1 := clearG_eq hP (fun c hc => (hs c hc).mono (by omega)) (by omega) o.length 0 (by omega)
          rw [List.drop_zero] at h1
          rw [h1, Bool.eq_iff_iff, allF_true, allF_true]
          constructor
          · intro h j h2 h3
            unfold clrOk
            rw [List.all_eq_true.1 hA _ (qmem o j _ h3), Bool.true_and]
            exact h j h2 h3
          · intro h j h2 h3
            have := h j h2 h3
            unfold clrOk at this
            exact (Bool.and_eq_true_iff.1 this).2
      rw [key]
      refine Evt.up (g := fun k i => spec_l27Clear.l0 k o (i : Int) l) (R := fun i => allF (clrOk l o) o.length i) (n := o.length) ?_ ?_ 0 (Nat.zero_le _)
      · refine Evt.step (fun k => rfl) ?_
        simp only [spec_l27Clear.l0]
        rw [allF_end]
        exact Evt.ite_neg (by omega) Evt.pure
      · intro i hi ih
        rw [allF_succ _ hi]
        refine Evt.step (fun k => rfl) ?_
        simp only [spec_l27Clear.l0, rdQ, in_eq, Option.bind_some]
        refine Evt.ite_pos (by omega) (Evt.ite_pos (by omega) ?_)
        have hoff : inL (-12) 12 (o.getD i z71) = false → Evt (fun k => spec_l27Clear.j2 k o (i : Int) true l (o.getD i z71).f0 (o.getD i z71).f1 (o.getD i z71).f2) (clrOk l o i && allF (clrOk l o) o.length (i + 1)) := by
          intro hn
          unfold clrOk
          rw [hn]
          refine Evt.step (fun k => rfl) ?_
          simp only [spec_l27Clear.j2]
          exact Evt.ite_pos trivial Evt.pure
        by_cases h1 : -12 ≤ (o.getD i z71).f0 ∧ (o.getD i z71).f0 ≤ 12
        case neg => exact Evt.ite_neg (by simpa using h1) (hoff (Bool.eq_false_iff.mpr (fun hh => h1 (inL_iff.1 hh).1)))
        refine Evt.ite_pos (by simpa using h1) ?_
        by_cases h2 : -12 ≤ (o.getD i z71).f1 ∧ (o.getD i z71).f1 ≤ 12
        case neg => exact Evt.ite_neg (by simpa using h2) (hoff (Bool.eq_false_iff.mpr (fun hh => h2 (inL_iff.1 hh).2.1)))
        refine Evt.ite_pos (by simpa using h2) ?_
        by_cases h3 : -12 ≤ (o.getD i z71).f2 ∧ (o.getD i z71).f2 ≤ 12
        case neg =>
          rw [show decide (-12 ≤ (o.getD i z71).f2 ∧ (o.getD i z71).f2 ≤ 12) = false by simpa using h3]
          exact hoff (Bool.eq_false_iff.mpr (fun hh => h3 (inL_iff.1 hh).2.2))
        rw [show decide (-12 ≤ (o.getD i z71).f2 ∧ (o.getD i z71).f2 ≤ 12) = true by simpa using h3]
        refine Evt.step (fun k => rfl) ?_
        simp only [spec_l27Clear.j2]
        refine Evt.ite_neg (by simp) ?_
        have e2 : clrOk l o i = allF (fun k => !meetQ (movQ (l.getD i []) (o.getD i z71)) (movQ (l.getD k []) (o.getD k z71))) i 0 := by
          unfold clrOk
          rw [inL_iff.2 ⟨h1, h2, h3⟩, Bool.true_and]
        rw [e2]
        have hli := hP.len i (by omega)
        refine Evt.up (g := fun k j => spec_l27Clear.l1 k o (i : Int) (j : Int) l (o.getD i z71).f0 (o.getD i z71).f1 (o.getD i z71).f2) (R := fun j => allF (fun k => !meetQ (movQ (l.getD i []) (o.getD i z71)) (movQ (l.getD k []) (o.getD k z71))) i j && allF (clrOk l o) o.length (i + 1)) (n := i) ?_ ?_ 0 (Nat.zero_le _)
        · refine Evt.step (fun k => rfl) ?_
          simp only [spec_l27Clear.l1]
          refine Evt.ite_neg (by omega) ?_
          rw [allF_end, Bool.true_and, wrap_succ hi (by omega)]
          exact ih
        · intro j hj ihj
          have hlj := hP.len j (by omega)
          refine Evt.step (fun k => rfl) ?_
          simp only [spec_l27Clear.l1, rdQ4, rdQ]
          refine Evt.ite_pos (by omega) (Evt.ite_pos (by omega) (Evt.ite_pos (by omega) ?_))
          refine (l09Move_eq _ (o.getD i z71) (by omega)).bind (Evt.ite_pos (by omega) (Evt.ite_pos (by omega) (Evt.ite_pos (by omega) ?_)))
          refine (l09Move_eq _ (o.getD j z71) (by omega)).bind ((l27Meet_eq _ _ (by rw [movQ_len]; omega) (by rw [movQ_len]; omega)).bind ?_)
          rw [allF_succ _ hj, wrap_succ hj (by omega)]
          cases hm : meetQ (movQ (l.getD i []) (o.getD i z71)) (movQ (l.getD j []) (o.getD j z71))
          · exact Evt.ite_neg (by simp) (by simpa using ihj)
          · exact Evt.ite_pos rfl Evt.pure
  · refine Evt.ite_neg c ?_
    refine Evt.step (fun k => rfl) ?_
    simp only [spec_l27Clear.j0]
    refine Evt.ite_pos trivial (Evt.const ?_)
    congr 1
    symm
    cases o with
    | nil => rfl
    | cons q r =>
      simp only [offsC]
      rw [decide_eq_false (by omega), Bool.false_and]
theorem offsC_iff {l : List (List Cube)} {o : List Cube} (h : offsC l o = true) : o.length = l.length ∧ ∀ c ∈ o, sm 12 c := by
  cases o with
  | nil => cases h
  | cons q r =>
    simp only [offsC] at h
    obtain ⟨h1, h2⟩ := Bool.and_eq_true_iff.1 h
    obtain ⟨_, h3⟩ := Bool.and_eq_true_iff.1 h2
    exact ⟨of_decide_eq_true h1, sm_of_in (Bool.and_eq_true_iff.1 h3).1⟩
noncomputable def codeQ (l : List (List Cube)) (o : List Cube) : Int := if asm l = true then (if offsC l o = true then 0 else 2) else 1
theorem l27Code_eq {l : List (List Cube)} {o : List Cube} (hL : LQ l) (ho : o.length ≤ 1048576) : Evt (fun k => spec_l27Code.f k l o) (codeQ l o) := by
  unfold spec_l27Code.f codeQ
  refine (isAssembly_spec l hL).bind ?_
  cases hA : asm l
  · rw [if_neg (by simp)]
    exact Evt.ite_neg (by simp) Evt.pure
  · rw [if_pos rfl]
    refine Evt.ite_pos rfl ((l27Clear_eq (asm_pts hA) ho).bind ?_)
    cases offsC l o
    · exact Evt.ite_neg (by simp) Evt.pure
    · exact Evt.ite_pos rfl Evt.pure
theorem readOffsets_eq {l : List (List Cube)} {o : List Cube} (hL : LQ l) : Evt (fun k => impl_readOffsets.f k l o) (codeQ l o) := by
  unfold impl_readOffsets.f codeQ
  refine (isAssembly_impl l hL).bind ?_
  cases hA : asm l
  · exact Evt.ite_neg (by simp) Evt.pure
  · have hP := asm_pts hA
    have := hP.lo
    exact Evt.ite_pos rfl (Evt.ite_pos ⟨hP.hi, by omega⟩ Evt.pure)
end Go.Proofs.Ytjgnlakgojookaa.Pure
end
section
namespace Go.Proofs.Ytjgnlakgojookaa.Pure
open Go.RowKit Go.Proofs.Ytjgnlakgojookaa Go.Proofs.Ytjgnlakgojookaa.Q Go.Proofs.YtjgnlakgojookaaW.PrintWords
set_option linter.unusedVariables false
set_option linter.unusedSimpArgs false
theorem gd_at {α : Type} (A r : List α) (v z : α) (i : Nat) (h : A.length = i) : (A ++ v :: r).getD i z = v := by
  simp [List.getD_eq_getElem?_getD, List.getElem?_append_right (Nat.le_of_eq h), h]
theorem set_at {α : Type} (A r : List α) (v u : α) (i : Nat) (h : A.length = i) : (A ++ v :: r).set i u = A ++ u :: r := by
  rw [List.set_append_right _ _ (Nat.le_of_eq h), h, Nat.sub_self, List.set_cons_zero]
def runI (a : Int) (i : Nat) : List Int := (List.range i).map fun (j : Nat) => a + (j : Int)
def runC (a : Int) (i : Nat) : List Cube := (List.range i).map fun (j : Nat) => ⟨a + 3 * (j : Int), a + 3 * (j : Int) + 1, a + 3 * (j : Int) + 2⟩
theorem runC_len (a : Int) (i : Nat) : (runC a i).length = i := by simp [runC]
theorem runC_succ (a : Int) (i : Nat) : runC a (i + 1) = runC a i ++ [⟨a + 3 * (i : Int), a + 3 * (i : Int) + 1, a + 3 * (i : Int) + 2⟩] := by simp [runC, List.range_succ]
theorem runC_at (a : Int) {n i : Nat} (h : i < n) : (runC a n).getD i z71 = ⟨a + 3 * (i : Int), a + 3 * (i : Int) + 1, a + 3 * (i : Int) + 2⟩ := by
  rw [qgd _ _ _ (by rw [runC_len]; exact h)]
  simp [runC]
theorem markC_eq (l : List Cube) (a : Int) (h0 : 0 ≤ a) (hb : a + 3 * l.length ≤ 4611686018427387904) : Evt (fun k => laws_markCubeS.f k l a) (a + 3 * l.length, runC a l.length) := by
  unfold laws_markCubeS.f
  have key := Evt.upS (g := fun k i s => laws_markCubeS.l0 k s (a + 3 * (i : Int)) (i : Int)) (R := fun _ _ => (a + 3 * (l.length : Int), runC a l.length)) (P := fun i s => s = runC a i ++ l.drop i) (n := l.length) ?_ ?_ 0 l (Nat.zero_le _) (by simp [runC])
  · simpa using key
  · rintro s rfl
    refine Evt.step (fun k => rfl) ?_
    simp only [laws_markCubeS.l0]
    rw [List.drop_length, List.append_nil]
    exact Evt.ite_neg (by rw [runC_len]; omega) Evt.pure
  · rintro i s hi rfl ih
    refine Evt.step (fun k => rfl) ?_
    have e1 : wrap64 (a + 3 * (i : Int) + 1) = a + 3 * (i : Int) + 1 := by unfold wrap64; omega
    have e2 : wrap64 (a + 3 * (i : Int) + 1 + 1) = a + 3 * (i : Int) + 2 := by unfold wrap64; omega
    have e3 : wrap64 (a + 3 * (i : Int) + 2 + 1) = a + 3 * ((i + 1 : Nat) : Int) := by unfold wrap64; omega
    simp only [laws_markCubeS.l0, Option.bind_some, e1, e2, e3]
    refine Evt.ite_pos (by rw [List.length_append, runC_len, List.length_drop]; omega) (Evt.ite_pos (by omega) ?_)
    rw [wrap_succ hi (by omega), qdrop l i z71 hi]
    simp only [Int.toNat_natCast, rdQ, set_at _ _ _ _ _ (runC_len a i), gd_at _ _ _ _ _ (runC_len a i)]
    exact ih _ (by rw [runC_succ, List.append_assoc]; rfl)
theorem heldC_eq (n : Nat) (a : Int) (h0 : 0 ≤ a) (hb : a + 3 * n ≤ 4611686018427387904) : Evt (fun k => laws_heldCubeS.f k (runC a n) a) (a + 3 * n) := by
  unfold laws_heldCubeS.f
  have key := Evt.up (g := fun k i => laws_heldCubeS.l0 k (runC a n) (a + 3 * (i : Int)) (i : Int)) (R := fun _ => a + 3 * (n : Int)) (n := n) ?_ ?_ 0 (Nat.zero_le _)
  · simpa using key
  · refine Evt.step (fun k => rfl) ?_
    simp only [laws_heldCubeS.l0]
    exact Evt.ite_neg (by rw [runC_len]; omega) Evt.pure
  · intro i hi ih
    refine Evt.step (fun k => rfl) ?_
    have e1 : wrap64 (a + 3 * (i : Int) + 1) = a + 3 * (i : Int) + 1 := by unfold wrap64; omega
    have e2 : wrap64 (a + 3 * (i : Int) + 1 + 1) = a + 3 * (i : Int) + 2 := by unfold wrap64; omega
    have e3 : wrap64 (a + 3 * (i : Int) + 2 + 1) = a + 3 * ((i + 1 : Nat) : Int) := by unfold wrap64; omega
    simp only [laws_heldCubeS.l0, rdQ, runC_at a hi, e1, e2, e3]
    refine Evt.ite_pos (by rw [runC_len]; omega) (Evt.ite_pos (by omega) (Evt.ite_pos (by simp) (Evt.ite_pos (by simp) (Evt.ite_pos (by simp) ?_))))
    rw [wrap_succ hi (by omega)]
    exact ih
theorem markCC_eq : ∀ (l : List (List Cube)) (a : Int), 0 ≤ a → (∀ c ∈ l, c.length ≤ 1048576) → a + 4000000 * l.length ≤ 4611686018427387904 → ∃ r, Evt (fun k => laws_markCubeSS.f k l a) r ∧ a ≤ r ∧ r ≤ a + 4000000 * l.length
  | [], a, _, _, _ => ⟨a, Evt.pure, by omega, by simp⟩
  | q :: r, a, h0, hc, hb => by
    have hq := hc q (by simp)
    rw [List.length_cons] at hb
    obtain ⟨t, h1, h2, h3⟩ := markCC_eq r (a + 3 * q.length) (by omega) (fun c h => hc c (by simp [h])) (by omega)
    refine ⟨t, ?_, by omega, by rw [List.length_cons]; omega⟩
    simp only [laws_markCubeSS.f]
    exact (markC_eq q a h0 (by omega)).bind h1
theorem markAssembly_eq {l : List (List Cube)} (h : LQ l) : ∃ r, Evt (fun k => laws_markAssembly.f k l 1) r ∧ 1 ≤ r ∧ r ≤ 4611686018000000 := by
  obtain ⟨r, h1, h2, h3⟩ := markCC_eq l 1 (by omega) h.2 (by have := h.1; omega)
  exact ⟨r, h1, h2, by have := h.1; omega⟩
end Go.Proofs.Ytjgnlakgojookaa.Pure
end
section
namespace Go.Proofs.Ytjgnlakgojookaa.Pure
open Go.RowKit Go.Proofs.Ytjgnlakgojookaa Go.Proofs.Ytjgnlakgojookaa.Q Go.Proofs.Ytjgnlakgojookaa.UFnExactMovedParts Go.Proofs.YtjgnlakgojookaaW.PrintWords
set_option linter.unusedVariables false
set_option linter.unusedSimpArgs false
def mvs (l : List (List Cube)) (o : List Cube) : List (List Cube) := (List.range l.length).map fun i => movQ (l.getD i []) (o.getD i z71)
theorem mvs_take (l : List (List Cube)) (o : List Cube) (i : Nat) (h : i < l.length) : ((List.range (i + 1)).map fun i => movQ (l.getD i []) (o.getD i z71)) = ((List.range i).map fun i => movQ (l.getD i []) (o.getD i z71)) ++ [movQ (l.getD i []) (o.getD i z71)] := by simp [List.range_succ]
theorem moved_spec {l : List (List Cube)} {o : List Cube} (hP : Pts l) (hol : o.length = l.length) : Evt (fun k => spec_MovedParts.l0 k o [] 0 l) (mvs l o, 0) := by
  have h4 := hP.hi
  have key := Evt.upS (g := fun k i acc => spec_MovedParts.l0 k o acc (i : Int) l) (R := fun _ _ => (mvs l o, (0 : Int))) (P := fun i acc => acc = (List.range i).map fun i => movQ (l.getD i []) (o.getD i z71)) (n := l.length) ?_ ?_ 0 [] (Nat.zero_le _) (by simp)
  · exact key
  · rintro acc rfl
    refine Evt.step (fun k => rfl) ?_
    simp only [spec_MovedParts.l0]
    exact Evt.ite_neg (by omega) Evt.pure
  · rintro i acc hi rfl ih
    refine Evt.step (fun k => rfl) ?_
    simp only [spec_MovedParts.l0, rdQ, rdQ4]
    have hli := hP.len i hi
    refine Evt.ite_pos (by omega) (Evt.ite_pos (by omega) (Evt.ite_pos (by omega) ((l09Move_eq _ (o.getD i z71) (by omega)).bind (Evt.ite_pos (by simp; omega) ?_))))
    rw [wrap_succ hi (by omega)]
    exact ih _ (mvs_take l o i hi).symm
theorem moved_impl {l : List (List Cube)} {o : List Cube} (hP : Pts l) (hol : o.length = l.length) : Evt (fun k => impl_movedParts.f k l o) (mvs l o) := by
  have h4 := hP.hi
  unfold impl_movedParts.f
  have key := Evt.upS (g := fun k i acc => impl_movedParts.l0 k o acc l (l.length : Int) (i : Int)) (R := fun _ _ => mvs l o) (P := fun i acc => acc = (List.range i).map fun i => movQ (l.getD i []) (o.getD i z71)) (n := l.length) ?_ ?_ 0 [] (Nat.zero_le _) (by simp)
  · exact key
  · rintro acc rfl
    refine Evt.step (fun k => rfl) ?_
    simp only [impl_movedParts.l0]
    exact Evt.ite_neg (by omega) Evt.pure
  · rintro i acc hi rfl ih
    refine Evt.step (fun k => rfl) ?_
    simp only [impl_movedParts.l0, rdQ4]
    have hli := hP.len i hi
    refine Evt.ite_pos (by omega) (Evt.ite_pos (by omega) (Evt.ite_pos (by omega) ?_))
    generalize hq : l.getD i [] = q at hli
    have key2 := Evt.upS (g := fun k j nx => impl_movedParts.l1 k o ((List.range i).map fun i => movQ (l.getD i []) (o.getD i z71)) (i : Int) nx l (l.length : Int) (i : Int) q (q.length : Int) (j : Int)) (R := fun _ _ => mvs l o) (P := fun j nx => nx = (q.take j).map fun c => addS c (o.getD i z71)) (n := q.length) ?_ ?_ 0 [] (Nat.zero_le _) (by simp)
    · exact key2
    · rintro nx rfl
      refine Evt.step (fun k => rfl) ?_
      simp only [impl_movedParts.l1]
      rw [List.take_length]
      refine Evt.ite_neg (by omega) (Evt.ite_pos (by simp; omega) ?_)
      rw [wrap_succ hi (by omega)]
      refine ih _ ?_
      rw [mvs_take l o i hi, hq]
      rfl
    · rintro j nx hj rfl ih2
      refine Evt.step (fun k => rfl) ?_
      simp only [impl_movedParts.l1, rdQ, impl_plusCube.f, Option.bind_some]
      refine Evt.ite_pos (by omega) (Evt.ite_pos (by omega) (Evt.ite_pos (by omega) (Evt.ite_pos (by omega) (Evt.ite_pos (by omega) (Evt.ite_pos (by simp; omega) ?_)))))
      rw [wrap_succ hj (by omega)]
      refine ih2 _ ?_
      rw [List.take_add_one, List.getElem?_eq_getElem hj, List.map_append, qgd q j _ hj]
      rfl
theorem movedParts_eq {l : List (List Cube)} {o : List Cube} (hL : LQ l) (ho : o.length ≤ 1048576) : ∃ r : List (List Cube) × Int, (r.1.length ≤ 4 ∧ ∀ c ∈ r.1, c.length ≤ 24) ∧ Evt (fun k => spec_MovedParts.f k l o) r ∧ Evt (fun k => impl_MovedParts.f k l o) r := by
  by_cases hc : codeQ l o = 0
  · have hA : asm l = true := by
      unfold codeQ at hc
      cases h : asm l
      · rw [h, if_neg (by simp)] at hc; omega
      · rfl
    have hO : offsC l o = true := by
      unfold codeQ at hc
      rw [hA, if_pos rfl] at hc
      cases h : offsC l o
      · rw [h, if_neg (by simp)] at hc; omega
      · rfl
    have hP := asm_pts hA
    obtain ⟨hol, hos⟩ := offsC_iff hO
    refine ⟨(mvs l o, 0), ⟨by simp only [mvs, List.length_map, List.length_range]; exact hP.hi, fun c hc => ?_⟩, ?_, ?_⟩
    · obtain ⟨i, hi, rfl⟩ := List.mem_map.1 hc
      rw [movQ_len]
      exact hP.len i (List.mem_range.1 hi)
    · unfold spec_MovedParts.f
      exact (l27Code_eq hL ho).bind (Evt.ite_pos hc (moved_spec hP hol))
    · unfold impl_MovedParts.f
      exact (readOffsets_eq hL).bind (Evt.ite_pos hc ((moved_impl hP hol).bind Evt.pure))
  · refine ⟨([], codeQ l o), ⟨by simp, fun c h => by cases h⟩, ?_, ?_⟩
    · unfold spec_MovedParts.f
      exact (l27Code_eq hL ho).bind (Evt.ite_neg hc Evt.pure)
    · unfold impl_MovedParts.f
      exact (readOffsets_eq hL).bind (Evt.ite_neg hc Evt.pure)
def runSS : Int → List (List Cube) → List (List Cube)
  | _, [] => []
  | a, q :: r => runC a q.length :: runSS (a + 3 * (q.length : Int)) r
def endSS : Int → List (List Cube) → Int
  | a, [] => a
  | a, q :: r => endSS (a + 3 * (q.length : Int)) r
theorem runSS_len : ∀ (a : Int) (l : List (List Cube)), (runSS a l).length = l.length
  | _, [] => rfl
  | a, q :: r => by rw [runSS, List.length_cons, runSS_len, List.length_cons]
theorem endSS_le : ∀ (l : List (List Cube)) (a : Int), (∀ c ∈ l, c.length ≤ 24) → a ≤ endSS a l ∧ endSS a l ≤ a + 72 * l.length
  | [], a, _ => by simp [endSS]
  | q :: r, a, h => by
    have := endSS_le r (a + 3 * (q.length : Int)) (fun c hc => h c (by simp [hc]))
    have hq := h q (by simp)
    rw [endSS, List.length_cons]
    omega
theorem markSS_eq : ∀ (l : List (List Cube)) (a : Int), 0 ≤ a → (∀ c ∈ l, c.length ≤ 24) → a + 72 * l.length ≤ 4611686018427387904 → Evt (fun k => markSS k l a) (endSS a l, runSS a l)
  | [], a, _, _, _ => Evt.pure
  | q :: r, a, h0, hc, hb => by
    have hq := hc q (by simp)
    rw [List.length_cons] at hb
    simp only [markSS]
    refine (markC_eq q a h0 (by omega)).bind ((markSS_eq r (a + 3 * (q.length : Int)) (by omega) (fun c h => hc c (by simp [h])) (by omega)).bind ?_)
    exact Evt.pure
theorem heldSS_eq (l : List (List Cube)) (a : Int) (h0 : 0 ≤ a) (hc : ∀ c ∈ l, c.length ≤ 24) (hb : a + 72 * l.length ≤ 1000000000) : Evt (fun k => laws_heldCubeSS.f k (runSS a l) a) (endSS a l) := by
  unfold laws_heldCubeSS.f
  have hlen := runSS_len a l
  have key := Evt.upS (g := fun k i (s : Int) => laws_heldCubeSS.l0 k (runSS a l) s (i : Int)) (R := fun i s => endSS s (l.drop i)) (P := fun i s => (runSS a l).drop i = runSS s (l.drop i) ∧ 0 ≤ s ∧ s ≤ a + 72 * i) (n := l.length) ?_ ?_ 0 a (Nat.zero_le _) ⟨by simp, h0, by omega⟩
  · simpa using key
  · rintro s _
    refine Evt.step (fun k => rfl) ?_
    simp only [laws_heldCubeSS.l0]
    rw [List.drop_length, endSS]
    exact Evt.ite_neg (by omega) Evt.pure
  · rintro i s hi ⟨hd, hs0, hs1⟩ ih
    refine Evt.step (fun k => rfl) ?_
    simp only [laws_heldCubeSS.l0, rdQ4]
    have hq := hc _ (qmem l i [] hi)
    rw [qdrop l i [] hi, runSS, qdrop (runSS a l) i [] (by omega)] at hd
    obtain ⟨e1, e2⟩ := List.cons.inj hd
    rw [qdrop l i [] hi, endSS, e1]
    refine Evt.ite_pos (by omega) (Evt.ite_pos (by omega) ((heldC_eq _ s hs0 (by omega)).bind (Evt.ite_neg (by omega) ?_)))
    rw [wrap_succ hi (by omega)]
    exact ih _ ⟨e2, by omega, by omega⟩
theorem FnExactMovedParts : laws_FnExactMovedParts_Pure := by
  intro l o hl ho
  apply Evt.out
  unfold laws_FnExactMovedParts.f
  obtain ⟨r, h1, h2⟩ := szAssembly_eq l 1048576 (by omega) (by omega) hl.1 (fun c hc => (hl.2 c hc).1)
  refine h1.bind ?_
  by_cases hneg : r < 0
  · exact Evt.ite_pos hneg Evt.pure
  · obtain ⟨hL, hr⟩ := h2 (by omega)
    refine Evt.ite_neg hneg ?_
    rw [szCubeS_eq o r (by omega) (by omega) ho.1]
    simp only [Option.bind_some]
    by_cases h3 : r - (o.length : Int) < 0
    · rw [if_pos h3]
      exact Evt.ite_pos (by omega) Evt.pure
    · rw [if_neg h3]
      refine Evt.ite_neg h3 ?_
      have hlo : o.length ≤ 1048576 := by omega
      have hl2 : (toQs o).length ≤ 1048576 := by rw [toQs_len]; exact hlo
      obtain ⟨b, bl, b1, b2⟩ := movedParts_eq hL.to hl2
      obtain ⟨m, m1, m2, m3⟩ := markAssembly_eq hL.to
      have hBL : LQ b.1 := ⟨by omega, fun c hc => by have := bl.2 c hc; omega⟩
      have hend := endSS_le b.1 1 bl.2
      refine (toAssembly_eq l hL).bind ((toCubeS_eq o hlo).bind (b1.bind (b2.bind ((eqCubeSS_refl _ hBL).bind ((eqAssembly_refl _ hL.to).bind ((eqCubeS_refl _ hl2).bind (m1.bind ((markC_eq _ m (by omega) (by omega)).bind ((markSS_eq _ 1 (by omega) bl.2 (by omega)).bind ((heldSS_eq _ 1 (by omega) bl.2 (by omega)).bind ?_))))))))))
      exact Evt.ite_pos ⟨rfl, rfl, rfl, rfl, by simp only; omega, rfl, by omega⟩ Evt.pure
end Go.Proofs.Ytjgnlakgojookaa.Pure
end
