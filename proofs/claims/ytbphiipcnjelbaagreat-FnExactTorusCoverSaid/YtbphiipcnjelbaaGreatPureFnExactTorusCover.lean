/- The pure side of the law FnExactTorusCover: parts of this session, put into one text by merge.py. -/
import Derived.Test.YtbphiipcnjelbaaGreatQ0
import Derived.Test.YtbphiipcnjelbaaGreatOpn
import Derived.Test.YtbphiipcnjelbaaGreatQ3
import Derived.Test.YtbphiipcnjelbaaGreatQ8
import Derived.Test.YtbphiipcnjelbaaGreatQ4
import Derived.Test.YtbphiipcnjelbaaGreatQ9
import Derived.Test.YtbphiipcnjelbaaGreatQGimplparts
import Derived.Test.YtbphiipcnjelbaaGreatQ6
import Derived.Test.YtbphiipcnjelbaaGreatQGimplmoved
import Derived.Test.YtbphiipcnjelbaaGreatQGimplIsPiece
import Derived.Test.YtbphiipcnjelbaaGreatQGimplcompareShapes
import Derived.Test.YtbphiipcnjelbaaGreatQGimplsorted
import Derived.Test.YtbphiipcnjelbaaGreatQ5
import Derived.Test.YtbphiipcnjelbaaGreatQ11
import Derived.Test.YtbphiipcnjelbaaGreatQ12
import Derived.Test.YtbphiipcnjelbaaGreatQGimplform
import Derived.Test.YtbphiipcnjelbaaGreatQ13
import Derived.Test.YtbphiipcnjelbaaGreatQGspecl18Add
import Derived.Test.YtbphiipcnjelbaaGreatQGspecl12Sorted
import Derived.Test.YtbphiipcnjelbaaGreatQGspecl25Spots
import Derived.Test.YtbphiipcnjelbaaGreatQGslicesCompactFuncint64int64
import Derived.Test.YtbphiipcnjelbaaGreatQGspecSpotsOf
import Derived.Test.YtbphiipcnjelbaaGreatQ10
import Derived.Test.YtbphiipcnjelbaaGreatQGimplSpotsOf
import Derived.Test.YtbphiipcnjelbaaGreatQ16
import Derived.Test.YtbphiipcnjelbaaGreatQ17
import Derived.Test.YtbphiipcnjelbaaGreatQGlawsmarkInt64SS
import Derived.Test.YtbphiipcnjelbaaGreatQ18
import Derived.Test.YtbphiipcnjelbaaGreatQ2
import Derived.Test.YtbphiipcnjelbaaGreatQGlawseqPiece
import Derived.Test.YtbphiipcnjelbaaGreatQGlawsFnExactTorusCover
import Derived.Test.YtbphiipcnjelbaaGreatUFnExactTorusCover
section
namespace Go.Proofs.YtbphiipcnjelbaaGreat.Pure
open Go.RowKit
set_option linter.unusedVariables false
set_option linter.unusedSimpArgs false
def Evt {α : Type} (g : Nat → Option α) (r : α) : Prop := ∃ K, ∀ k, K ≤ k → g k = some r
theorem Evt.out {α : Type} {g : Nat → Option α} {r : α} (h : Evt g r) : ∃ k, g k = some r := by
 obtain ⟨K, h⟩ := h
 exact ⟨K, h K (Nat.le_refl _)⟩
theorem Evt.pure {α : Type} {r : α} : Evt (fun _ => some r) r := ⟨0, fun _ _ => rfl⟩
theorem Evt.const {α : Type} {o : Option α} {r : α} (h : o = some r) : Evt (fun _ => o) r := ⟨0, fun _ _ => h⟩
theorem Evt.of_eq {α : Type} {g g' : Nat → Option α} {r : α} (e : ∀ k, g' k = g k) (h : Evt g r) : Evt g' r := by
 obtain ⟨K, h⟩ := h
 exact ⟨K, fun k hk => (e k).trans (h k hk)⟩
theorem Evt.bind {α β : Type} {g : Nat → Option α} {f : Nat → α → Option β} {a : α} {r : β} (h : Evt g a) (h2 : Evt (fun k => f k a) r) : Evt (fun k => (g k).bind (f k)) r := by
 obtain ⟨K, h⟩ := h
 obtain ⟨K2, h2⟩ := h2
 refine ⟨K + K2, fun k hk => ?_⟩
 show (g k).bind (f k) = some r
 rw [h k (by omega)]
 exact h2 k (by omega)
theorem Evt.step {α : Type} {g h : Nat → Option α} {r : α} (e : ∀ k, g (k + 1) = h k) (hh : Evt h r) : Evt g r := by
 obtain ⟨K, hh⟩ := hh
 refine ⟨K + 1, fun k hk => ?_⟩
 obtain ⟨m, rfl⟩ : ∃ m, k = m + 1 := ⟨k - 1, by omega⟩
 rw [e m]
 exact hh m (by omega)
theorem Evt.ite_pos {α : Type} {c : Prop} [Decidable c] {g h : Nat → Option α} {r : α} (hc : c) (hg : Evt g r) : Evt (fun k => if c then g k else h k) r := Evt.of_eq (fun k => if_pos hc) hg
theorem Evt.ite_neg {α : Type} {c : Prop} [Decidable c] {g h : Nat → Option α} {r : α} (hc : ¬ c) (hg : Evt h r) : Evt (fun k => if c then g k else h k) r := Evt.of_eq (fun k => if_neg hc) hg
theorem Evt.up {α : Type} {g : Nat → Nat → Option α} {R : Nat → α} {n : Nat} (hend : Evt (fun k => g k n) (R n)) (hstep : ∀ i, i < n → Evt (fun k => g k (i + 1)) (R (i + 1)) → Evt (fun k => g k i) (R i)) : ∀ i, i ≤ n → Evt (fun k => g k i) (R i) := by
 intro i hi
 obtain ⟨d, hd⟩ : ∃ d, n = i + d := ⟨n - i, by omega⟩
 induction d generalizing i with
 | zero =>
  have e : i = n := by omega
  rw [e]; exact hend
 | succ d ih => exact hstep i (by omega) (ih (i + 1) (by omega) (by omega))
theorem Evt.upS {α σ : Type} {g : Nat → Nat → σ → Option α} {R : Nat → σ → α} {P : Nat → σ → Prop} {n : Nat} (hend : ∀ s, P n s → Evt (fun k => g k n s) (R n s))
  (hstep : ∀ i s, i < n → P i s → (∀ s', P (i + 1) s' → Evt (fun k => g k (i + 1) s') (R (i + 1) s')) → Evt (fun k => g k i s) (R i s)) : ∀ i s, i ≤ n → P i s → Evt (fun k => g k i s) (R i s) := by
 intro i s hi hp
 obtain ⟨d, hd⟩ : ∃ d, n = i + d := ⟨n - i, by omega⟩
 induction d generalizing i s with
 | zero =>
  have e : i = n := by omega
  rw [e] at hp ⊢; exact hend s hp
 | succ d ih => exact hstep i s (by omega) hp (fun s' hp' => ih (i + 1) s' (by omega) hp' (by omega))
def Both {α : Type} (g h : Nat → Option α) : Prop := ∃ r, Evt g r ∧ Evt h r
theorem Both.pure {α : Type} {r : α} : Both (fun _ => some r) (fun _ => some r) := ⟨r, Evt.pure, Evt.pure⟩
theorem wrap_succ {i n : Nat} (h : i < n) (hn : n ≤ 9223372036854775807) : wrap64 ((i : Int) + 1) = ((i + 1 : Nat) : Int) := by
 unfold wrap64
 omega
end Go.Proofs.YtbphiipcnjelbaaGreat.Pure
end
section
namespace Go.Proofs.YtbphiipcnjelbaaGreat.Pure
open Go.RowKit Go.Proofs.YtbphiipcnjelbaaGreat Go.Proofs.YtbphiipcnjelbaaGreat.Q Go.Proofs.YtbphiipcnjelbaaGreatW.PrintWords
set_option linter.unusedVariables false
set_option linter.unusedSimpArgs false
theorem w64 {n : Int} (h0 : -9223372036854775808 ≤ n) (h1 : n ≤ 9223372036854775807) : wrap64 n = n := by
 unfold wrap64
 omega
theorem in_eq (a b c : Int) : spec_l01In.f a b c = some (decide (b ≤ a ∧ a ≤ c)) := by
 unfold spec_l01In.f
 by_cases h : a ≥ b
 ·rw [if_pos h]; simp; intro _; exact h
 ·rw [if_neg h]; simp; intro h2; omega
theorem within_eq (a b c : Int) : impl_within.f a b c = some (decide (b ≤ a ∧ a ≤ c)) := in_eq a b c
end Go.Proofs.YtbphiipcnjelbaaGreat.Pure
end
section
namespace Go.Proofs.YtbphiipcnjelbaaGreat.Pure
open Go.RowKit Go.Proofs.YtbphiipcnjelbaaGreat Go.Proofs.YtbphiipcnjelbaaGreat.Q Go.Proofs.YtbphiipcnjelbaaGreatW.PrintWords
set_option linter.unusedVariables false
set_option linter.unusedSimpArgs false
def Co (x : Int) : Bool := decide (-100 ≤ x ∧ x ≤ 100)
theorem Co_iff {x : Int} : Co x = true ↔ -100 ≤ x ∧ x ≤ 100 := by simp [Co]
theorem l02Cell_eq (x y : Int) : spec_l02Cell.f x y = some (Co x && Co y) := by
 unfold spec_l02Cell.f Co
 rw [in_eq]
 simp only [Option.bind_some]
 by_cases c : -100 ≤ x ∧ x ≤ 100
 ·rw [if_pos (by simpa using c), in_eq]
  simp [c]
 ·rw [if_neg (by simpa using c)]
  simp [c]
end Go.Proofs.YtbphiipcnjelbaaGreat.Pure
end
section
namespace Go.Proofs.YtbphiipcnjelbaaGreat.Pure
open Go.RowKit Go.Proofs.YtbphiipcnjelbaaGreat Go.Proofs.YtbphiipcnjelbaaGreat.Q Go.Proofs.YtbphiipcnjelbaaGreatW.PrintWords
set_option linter.unusedVariables false
set_option linter.unusedSimpArgs false
abbrev Cell := S66
def allF (ok : Nat → Bool) (n i : Nat) : Bool := (List.range' i (n - i)).all ok
theorem allF_end (ok : Nat → Bool) (n : Nat) : allF ok n n = true := by simp [allF]
theorem allF_succ (ok : Nat → Bool) {n i : Nat} (h : i < n) : allF ok n i = (ok i && allF ok n (i + 1)) := by
 unfold allF
 rw [show n - i = (n - (i + 1)) + 1 by omega, List.range'_succ]
 rfl
theorem allF_true {ok : Nat → Bool} {n i : Nat} : allF ok n i = true ↔ ∀ j, i ≤ j → j < n → ok j = true := by
 unfold allF
 rw [List.all_eq_true]
 constructor
 ·intro h j h1 h2
  exact h j (by rw [List.mem_range'_1]; omega)
 ·intro h j hj
  rw [List.mem_range'_1] at hj
  exact h j (by omega) (by omega)
def lessC (a b : Cell) : Bool := decide (a.f1 < b.f1) || (decide (a.f1 = b.f1) && decide (a.f0 < b.f0))
theorem l02Less_eq (a b : Cell) : spec_l02Less.f a.f0 a.f1 b.f0 b.f1 = some (lessC a b) := by
 unfold spec_l02Less.f lessC
 by_cases h : a.f1 < b.f1
 ·simp [h]
 ·by_cases h2 : a.f1 = b.f1
  ·simp [h2]
  ·simp [h, h2]
def shOk (l : List Cell) (i : Nat) : Bool := (Co (l.getD i z66).f0 && Co (l.getD i z66).f1) && (decide (i = 0) || lessC (l.getD (i - 1) z66) (l.getD i z66))
def Sh (l : List Cell) : Bool := allF (shOk l) l.length 0 && decide (1 ≤ l.length ∧ l.length ≤ 40)
theorem rd_getD (l : List Cell) (i : Nat) : rd_T66 l (i : Int) = l.getD i z66 := by simp [rd_T66]
theorem spec_IsShape_eq (l : List Cell) (hl : l.length ≤ 9223372036854775807) : Evt (fun k => spec_IsShape.f k l) (Sh l) := by
 unfold spec_IsShape.f
 refine Evt.up (g := fun k i => spec_IsShape.l0 k l (i : Int)) (R := fun i => allF (shOk l) l.length i && decide (1 ≤ l.length ∧ l.length ≤ 40)) (n := l.length) ?_ ?_ 0 (Nat.zero_le _)
 ·refine Evt.step (fun k => rfl) ?_
  simp only [spec_IsShape.l0]
  refine Evt.ite_neg (by omega) ?_
  rw [in_eq, allF_end, Bool.true_and]
  refine Evt.const ?_
  simp only [Option.bind_some]
  congr 1
  exact decide_eq_decide.2 (by omega)
 ·intro i hi ih
  refine Evt.step (fun k => rfl) ?_
  simp only [spec_IsShape.l0, l02Cell_eq, Option.bind_some]
  refine Evt.ite_pos (by omega) (Evt.ite_pos (by omega) ?_)
  rw [allF_succ _ hi]
  simp only [rd_getD]
  by_cases hc : (Co (l.getD i z66).f0 && Co (l.getD i z66).f1) = true
  ·refine Evt.ite_pos hc ?_
   by_cases h0 : i = 0
   ·subst h0
    refine Evt.ite_neg (by omega) ?_
    rw [wrap_succ hi hl]
    have e : shOk l 0 = true := by unfold shOk; rw [hc]; rfl
    rw [e, Bool.true_and]
    exact ih
   ·refine Evt.ite_pos (by omega) ?_
    have ew : wrap64 ((i : Int) - 1) = ((i - 1 : Nat) : Int) := by rw [w64 (by omega) (by omega)]; omega
    simp only [ew, rd_getD, l02Less_eq, Option.bind_some]
    refine Evt.ite_pos (by omega) (Evt.ite_pos (by omega) ?_)
    rw [wrap_succ hi hl]
    by_cases hls : lessC (l.getD (i - 1) z66) (l.getD i z66) = true
    ·refine Evt.ite_pos hls ?_
     have e : shOk l i = true := by unfold shOk; rw [hc, hls]; simp
     rw [e, Bool.true_and]
     exact ih
    ·refine Evt.ite_neg hls ?_
     have e : shOk l i = false := by unfold shOk; rw [hc, Bool.eq_false_iff.mpr hls]; simp [h0]
     rw [e]
     exact Evt.pure
  ·refine Evt.ite_neg hc ?_
   have e : shOk l i = false := by unfold shOk; rw [Bool.eq_false_iff.mpr hc]; rfl
   rw [e]
   exact Evt.pure
theorem Sh_len {l : List Cell} (h : Sh l = true) : 1 ≤ l.length ∧ l.length ≤ 40 := by
 unfold Sh at h
 simp only [Bool.and_eq_true, decide_eq_true_eq] at h
 exact h.2
theorem Sh_co {l : List Cell} (h : Sh l = true) : ∀ c ∈ l, (-100 ≤ c.f0 ∧ c.f0 ≤ 100) ∧ -100 ≤ c.f1 ∧ c.f1 ≤ 100 := by
 intro c hc
 obtain ⟨i, hi, rfl⟩ := List.getElem_of_mem hc
 unfold Sh at h
 simp only [Bool.and_eq_true, decide_eq_true_eq] at h
 have h2 := allF_true.1 h.1 i (Nat.zero_le _) hi
 unfold shOk at h2
 simp only [Bool.and_eq_true, List.getD_eq_getElem?_getD, List.getElem?_eq_getElem hi, Option.getD_some] at h2
 exact ⟨Co_iff.1 h2.1.1, Co_iff.1 h2.1.2⟩
end Go.Proofs.YtbphiipcnjelbaaGreat.Pure
end
section
namespace Go.Proofs.YtbphiipcnjelbaaGreat.Pure
open Go.RowKit Go.Proofs.YtbphiipcnjelbaaGreat Go.Proofs.YtbphiipcnjelbaaGreat.Q Go.Proofs.YtbphiipcnjelbaaGreatW.PrintWords
set_option linter.unusedVariables false
set_option linter.unusedSimpArgs false
def cc (p : Int × Int) : Cell := ⟨p.1, p.2⟩
def ixAt (p : Int × Int) : Nat → List Cell → Int
 | _, [] => -1
 | i, c :: r => if c.f0 = p.1 ∧ c.f1 = p.2 then (i : Int) else ixAt p (i + 1) r
theorem ixAt_mem (p : Int × Int) : ∀ (l : List Cell) (i : Nat), 0 ≤ ixAt p i l ↔ cc p ∈ l
 | [], i => by simp [ixAt]
 | c :: r, i => by
  unfold ixAt
  by_cases h : c.f0 = p.1 ∧ c.f1 = p.2
  ·rw [if_pos h]
   have e : c = cc p := by
    cases c
    unfold cc
    simp at h
    rw [h.1, h.2]
   simp [e]
  ·rw [if_neg h, ixAt_mem p r (i + 1), List.mem_cons]
   constructor
   ·exact fun h2 => Or.inr h2
   ·rintro (e | h2)
    ·exact absurd (by rw [← e]; exact ⟨rfl, rfl⟩) h
    ·exact h2
theorem drop_getD {α : Type} (l : List α) (i : Nat) (z : α) (h : i < l.length) : l.drop i = l.getD i z :: l.drop (i + 1) := by
 rw [List.drop_eq_getElem_cons h]
 simp [List.getD_eq_getElem?_getD, List.getElem?_eq_getElem h]
theorem l02Index_eq (l : List Cell) (x y : Int) (hl : l.length ≤ 9223372036854775807) : Evt (fun k => spec_l02Index.f k l x y) (ixAt (x, y) 0 l) := by
 unfold spec_l02Index.f
 have h := Evt.up (g := fun k i => spec_l02Index.l0 k l (i : Int) x y) (R := fun i => ixAt (x, y) i (l.drop i)) (n := l.length) ?_ ?_ 0 (Nat.zero_le _)
 ·exact h
 ·refine Evt.step (fun k => rfl) ?_
  simp only [spec_l02Index.l0]
  refine Evt.ite_neg (by omega) ?_
  rw [List.drop_length]
  exact Evt.pure
 ·intro i hi ih
  refine Evt.step (fun k => rfl) ?_
  simp only [spec_l02Index.l0, rd_getD]
  refine Evt.ite_pos (by omega) (Evt.ite_pos (by omega) ?_)
  rw [drop_getD l i z66 hi]
  unfold ixAt
  by_cases hc : (l.getD i z66).f0 = x ∧ (l.getD i z66).f1 = y
  ·rw [if_pos hc]
   refine Evt.ite_pos (by rw [hc.1, hc.2]; simp) Evt.pure
  ·rw [if_neg hc]
   refine Evt.ite_neg (by simpa using hc) ?_
   rw [wrap_succ hi hl]
   exact ih
end Go.Proofs.YtbphiipcnjelbaaGreat.Pure
end
section
namespace Go.Proofs.YtbphiipcnjelbaaGreat.Pure
open Go.RowKit Go.Proofs.YtbphiipcnjelbaaGreat Go.Proofs.YtbphiipcnjelbaaGreat.Q Go.Proofs.YtbphiipcnjelbaaGreatW.PrintWords
set_option linter.unusedVariables false
set_option linter.unusedSimpArgs false
theorem ixAt_top (p : Int × Int) : ∀ (l : List Cell) (i : Nat), ixAt p i l < (i : Int) + l.length ∨ ixAt p i l = -1
 | [], i => Or.inr rfl
 | c :: r, i => by
  unfold ixAt
  by_cases h : c.f0 = p.1 ∧ c.f1 = p.2
  ·rw [if_pos h]
   exact Or.inl (by simp only [List.length_cons]; omega)
  ·rw [if_neg h]
   rcases ixAt_top p r (i + 1) with h2 | h2
   ·refine Or.inl ?_
    simp only [List.length_cons]
    omega
   ·exact Or.inr h2
theorem rdI (l : List Int) (i : Nat) : rd l (i : Int) = l.getD i 0 := by simp [rd]
def negs : List Int → Nat
 | [] => 0
 | x :: r => (if x < 0 then 1 else 0) + negs r
theorem negs_le : ∀ l : List Int, negs l ≤ l.length
 | [] => Nat.le_refl _
 | x :: r => by
  have := negs_le r
  unfold negs
  simp only [List.length_cons]
  split <;> omega
theorem negs_set : ∀ (l : List Int) (i : Nat) (a : Int), i < l.length → l.getD i 0 < 0 → 0 ≤ a → negs (l.set i a) + 1 = negs l
 | [], i, a, h, _, _ => by simp at h
 | x :: r, 0, a, _, h, h0 => by
  simp only [List.getD_cons_zero] at h
  simp only [List.set_cons_zero, negs]
  rw [if_pos h, if_neg (by omega)]
  omega
 | x :: r, i + 1, a, hl, h, h0 => by
  simp only [List.getD_cons_succ] at h
  simp only [List.set_cons_succ, negs]
  have := negs_set r i a (by simpa using hl) h h0
  omega
def Opens (n : Nat) (l : List Int) : Prop := ∀ e ∈ l, 0 ≤ e ∧ e < (n : Int)
def In (b : Int) (l : List Cell) : Prop := ∀ c ∈ l, (-b ≤ c.f0 ∧ c.f0 ≤ b) ∧ -b ≤ c.f1 ∧ c.f1 ≤ b
def arn (c : Cell) : List Cell := [⟨c.f0, wrap64 (c.f1 - 1)⟩, ⟨wrap64 (c.f0 - 1), c.f1⟩, ⟨wrap64 (c.f0 + 1), c.f1⟩, ⟨c.f0, wrap64 (c.f1 + 1)⟩]
theorem arn_spec (c : Cell) : spec_l02Around.f c.f0 c.f1 = some (arn c) := rfl
theorem arn_impl (c : Cell) : impl_around.f c.f0 c.f1 = some (arn c) := rfl
def stpT (l : List Cell) (x : Int) : List Cell → List Int × List Int → List Int × List Int
 | [], s => s
 | d :: r, s => stpT l x r (if 0 ≤ ixAt (d.f0, d.f1) 0 l ∧ rd s.1 (ixAt (d.f0, d.f1) 0 l) < 0 then (s.1.set (ixAt (d.f0, d.f1) 0 l).toNat x, s.2 ++ [ixAt (d.f0, d.f1) 0 l]) else s)
theorem stpT_cons (l : List Cell) (x : Int) (d : Cell) (r : List Cell) (s : List Int × List Int) : stpT l x (d :: r) s = stpT l x r (if 0 ≤ ixAt (d.f0, d.f1) 0 l ∧ rd s.1 (ixAt (d.f0, d.f1) 0 l) < 0 then (s.1.set (ixAt (d.f0, d.f1) 0 l).toNat x, s.2 ++ [ixAt (d.f0, d.f1) 0 l]) else s) := rfl
def bfsT (l : List Cell) (x : Int) : Nat → List Int → List Int → List Int
 | 0, o, _ => o
 | _ + 1, o, [] => o
 | M + 1, o, e :: r => bfsT l x M (stpT l x (arn (rd_T66 l e)) (o, r)).1 (stpT l x (arn (rd_T66 l e)) (o, r)).2
def outT (l : List Cell) : Nat → List Int → List Int
 | 0, o => o
 | d + 1, o => if rd o ((l.length - (d + 1) : Nat) : Int) ≥ 0 then outT l d o else outT l d (bfsT l ((l.length - (d + 1) : Nat) : Int) (l.length + 1) (o.set (l.length - (d + 1)) ((l.length - (d + 1) : Nat) : Int)) [((l.length - (d + 1) : Nat) : Int)])
def PI (n M : Nat) (s : List Int × List Int) : Prop := s.1.length = n ∧ Opens n s.2 ∧ negs s.1 + s.2.length ≤ M
theorem PI.step {l : List Cell} {x : Int} (hx : 0 ≤ x) {M : Nat} {s : List Int × List Int} (h : PI l.length M s) (t : Int) (ht : t < (l.length : Int) ∨ t = -1) :
  PI l.length M (if 0 ≤ t ∧ rd s.1 t < 0 then (s.1.set t.toNat x, s.2 ++ [t]) else s) := by
 obtain ⟨h1, h2, h3⟩ := h
 by_cases c : 0 ≤ t ∧ rd s.1 t < 0
 ·rw [if_pos c]
  have htl : t.toNat < s.1.length := by omega
  have hn := negs_set s.1 t.toNat x htl (by have := c.2; simpa [rd] using this) hx
  refine ⟨by simpa using h1, fun e he => ?_, ?_⟩
  ·rcases List.mem_append.1 he with he | he
   ·exact h2 e he
   ·rw [List.mem_singleton.1 he]; omega
  ·show negs (s.1.set t.toNat x) + (s.2 ++ [t]).length ≤ M
   rw [List.length_append, List.length_singleton]
   omega
 ·rw [if_neg c]
  exact ⟨h1, h2, h3⟩
theorem PI.stp {l : List Cell} {x : Int} (hx : 0 ≤ x) {M : Nat} : ∀ (ds : List Cell) (s : List Int × List Int), PI l.length M s → PI l.length M (stpT l x ds s)
 | [], s, h => h
 | d :: r, s, h => by
  unfold stpT
  refine PI.stp hx r _ (PI.step hx h _ ?_)
  have := ixAt_top (d.f0, d.f1) l 0
  omega
theorem bfs_len {l : List Cell} {x : Int} (hx : 0 ≤ x) : ∀ (M : Nat) (o q : List Int), PI l.length M (o, q) → (bfsT l x M o q).length = l.length
 | 0, o, q, h => h.1
 | M + 1, o, [], h => h.1
 | M + 1, o, e :: r, h => by
  unfold bfsT
  obtain ⟨h1, h2, h3⟩ := h
  have hp : PI l.length M (o, r) := ⟨h1, fun y hy => h2 y (List.mem_cons_of_mem _ hy), by simp only [List.length_cons] at h3 ⊢; omega⟩
  exact bfs_len hx M _ _ (PI.stp hx _ _ hp)
theorem start_PI {l : List Cell} (o : List Int) (i : Nat) (ho : o.length = l.length) (hi : i < l.length) (hn : rd o (i : Int) < 0) : PI l.length (l.length + 1) (o.set i (i : Int), [(i : Int)]) := by
 have h1 := negs_set o i (i : Int) (by omega) (by rw [rdI] at hn; exact hn) (by omega)
 have h2 := negs_le o
 refine ⟨by simpa using ho, fun e he => ?_, ?_⟩
 ·rw [List.mem_singleton.1 he]; omega
 ·show negs (o.set i (i : Int)) + 1 ≤ l.length + 1
  omega
section
variable {l : List Cell} (hl : l.length ≤ 100000)
include hl
theorem spec_l3 {x : Int} (hx : 0 ≤ x) {M : Nat} (hM : M ≤ 1000000) (c7 : List Cell) (h7 : c7.length = 4) (s : List Int × List Int) (h : PI l.length M s) {R : List Int}
  (cont : Evt (fun k => spec_l02Parts.l2 k l (stpT l x c7 s).1 x (stpT l x c7 s).2) R) : Evt (fun k => spec_l02Parts.l3 k l s.1 x s.2 c7 0) R := by
 refine Evt.upS (g := fun k i (s : List Int × List Int) => spec_l02Parts.l3 k l s.1 x s.2 c7 (i : Int)) (R := fun _ _ => R) (P := fun i s' => PI l.length M s' ∧ stpT l x (c7.drop i) s' = stpT l x c7 s) (n := 4) ?_ ?_ 0 s (Nat.zero_le _) ⟨h, rfl⟩
 ·rintro s' ⟨hp, he⟩
  refine Evt.step (fun k => rfl) ?_
  simp only [spec_l02Parts.l3]
  rw [show c7.drop 4 = [] by rw [← h7]; exact List.drop_length] at he
  refine Evt.ite_neg (by omega) ?_
  rw [show s' = stpT l x c7 s from he]
  exact cont
 ·rintro i s' hi4 ⟨hp, he⟩ ih
  obtain ⟨h1, h2, h3⟩ := hp
  refine Evt.step (fun k => rfl) ?_
  simp only [spec_l02Parts.l3]
  rw [drop_getD c7 i z66 (by omega), stpT_cons] at he
  refine Evt.ite_pos (by omega) (Evt.ite_pos (by omega) (Evt.ite_pos (by omega) ?_))
  rw [rd_getD]
  refine (l02Index_eq l _ _ (by omega)).bind ?_
  have htop := ixAt_top ((c7.getD i z66).f0, (c7.getD i z66).f1) l 0
  have hst := PI.step hx (M := M) (s := s') ⟨h1, h2, h3⟩ (ixAt ((c7.getD i z66).f0, (c7.getD i z66).f1) 0 l) (by omega)
  generalize ixAt ((c7.getD i z66).f0, (c7.getD i z66).f1) 0 l = t at htop he hst ⊢
  rw [wrap_succ hi4 (by omega)]
  by_cases ht : t ≥ 0
  ·refine Evt.ite_pos ht (Evt.ite_pos (by omega) (Evt.ite_pos (by omega) ?_))
   by_cases hn : rd s'.1 t < 0
   ·rw [if_pos ⟨ht, hn⟩] at he hst
    exact Evt.ite_pos hn (Evt.ite_pos (by omega) (ih (_, _) ⟨hst, he⟩))
   ·rw [if_neg (fun c => hn c.2)] at he
    exact Evt.ite_neg hn (ih s' ⟨⟨h1, h2, h3⟩, he⟩)
  ·rw [if_neg (fun c => ht c.1)] at he
   exact Evt.ite_neg ht (ih s' ⟨⟨h1, h2, h3⟩, he⟩)
theorem spec_l2 {x : Int} (hx : 0 ≤ x) {R : List Int} : ∀ (M : Nat) (o q : List Int), M ≤ 1000000 → PI l.length M (o, q) → Evt (fun k => spec_l02Parts.l1 k l (bfsT l x M o q) (wrap64 (x + 1))) R → Evt (fun k => spec_l02Parts.l2 k l o x q) R
 | 0, o, q, hM, h, cont => by
  have hq : q = [] := by
   have := h.2.2
   simp only at this
   exact List.length_eq_zero_iff.1 (by omega)
  subst hq
  refine Evt.step (fun k => rfl) ?_
  simp only [spec_l02Parts.l2]
  exact Evt.ite_neg (by simp) cont
 | M + 1, o, [], hM, h, cont => by
  refine Evt.step (fun k => rfl) ?_
  simp only [spec_l02Parts.l2]
  exact Evt.ite_neg (by simp) cont
 | M + 1, o, e :: r, hM, h, cont => by
  obtain ⟨h1, h2, h3⟩ := h
  have he := h2 e List.mem_cons_self
  refine Evt.step (fun k => rfl) ?_
  simp only [spec_l02Parts.l2]
  have e0 : rd (e :: r) 0 = e := by simp [rd]
  rw [e0, arn_spec]
  simp only [Option.bind_some, List.length_cons]
  refine Evt.ite_pos (by omega) (Evt.ite_pos (by omega) (Evt.ite_pos he.1 (Evt.ite_pos he.2 (Evt.ite_pos (by omega) ?_))))
  rw [show (e :: r).drop (1 : Int).toNat = r from rfl]
  have hp : PI l.length M (o, r) := ⟨h1, fun y hy => h2 y (List.mem_cons_of_mem _ hy), by simp only [List.length_cons] at h3 ⊢; omega⟩
  exact spec_l3 hl hx (by omega) _ rfl (o, r) hp (spec_l2 hx M _ _ (by omega) (PI.stp hx _ _ hp) cont)
theorem spec_l1 : ∀ (d : Nat) (o : List Int), d ≤ l.length → o.length = l.length → Evt (fun k => spec_l02Parts.l1 k l o ((l.length - d : Nat) : Int)) (outT l d o)
 | 0, o, hd, ho => by
  refine Evt.step (fun k => rfl) ?_
  simp only [spec_l02Parts.l1]
  exact Evt.ite_neg (by omega) Evt.pure
 | d + 1, o, hd, ho => by
  refine Evt.step (fun k => rfl) ?_
  simp only [spec_l02Parts.l1]
  unfold outT
  have hw : wrap64 (((l.length - (d + 1) : Nat) : Int) + 1) = ((l.length - d : Nat) : Int) := by
   rw [wrap_succ (n := l.length) (by omega) (by omega)]
   omega
  refine Evt.ite_pos (by omega) (Evt.ite_pos (by omega) (Evt.ite_pos (by omega) ?_))
  by_cases h : rd o ((l.length - (d + 1) : Nat) : Int) ≥ 0
  ·rw [if_pos h, hw]
   exact Evt.ite_pos h (spec_l1 d o (by omega) ho)
  ·rw [if_neg h]
   refine Evt.ite_neg h ?_
   have hp := start_PI o (l.length - (d + 1)) ho (by omega) (by omega)
   rw [Int.toNat_natCast]
   refine spec_l2 hl (by omega) (l.length + 1) _ _ (by omega) hp ?_
   rw [hw]
   exact spec_l1 d _ (by omega) (bfs_len (by omega) _ _ _ hp)
theorem spec_parts : Evt (fun k => spec_l02Parts.f k l) (outT l l.length (List.replicate l.length (-1))) := by
 unfold spec_l02Parts.f
 refine Evt.upS (g := fun k i s => spec_l02Parts.l0 k l s (i : Int)) (R := fun _ _ => outT l l.length (List.replicate l.length (-1))) (P := fun i s => s = List.replicate i (-1)) (n := l.length) ?_ ?_ 0 [] (Nat.zero_le _) rfl
 ·rintro s rfl
  refine Evt.step (fun k => rfl) ?_
  simp only [spec_l02Parts.l0]
  have h := spec_l1 hl l.length (List.replicate l.length (-1)) (Nat.le_refl _) (by simp)
  rw [Nat.sub_self] at h
  exact Evt.ite_neg (by omega) h
 ·rintro i s hin rfl ih
  refine Evt.step (fun k => rfl) ?_
  simp only [spec_l02Parts.l0]
  rw [wrap_succ hin (by omega)]
  exact Evt.ite_pos (by omega) (Evt.ite_pos (by simp; omega) (ih _ (List.replicate_succ').symm))
end
theorem mget_consP {κ : Type} [DecidableEq κ] {ε : Type} (x y : κ) (v : ε) (L : List (κ × ε)) : mget ((x, v) :: L) y = if x = y then some v else mget L y := by
 by_cases e : x = y
 ·rw [if_pos e]; simp [mget, e]
 ·rw [if_neg e]; simp [mget, e]
theorem mget_plc (p : Int × Int) : ∀ (l : List Cell) (i : Nat) (L : List ((Int × Int) × Int)), l.Nodup → mget (impl_parts.plc (i : Int) l L) p = if 0 ≤ ixAt p i l then some (ixAt p i l) else mget L p
 | [], i, L, _ => by
  rw [show impl_parts.plc (i : Int) [] L = L from rfl, show ixAt p i [] = -1 from rfl, if_neg (by omega)]
 | c :: r, i, L, hn => by
  rw [show impl_parts.plc (i : Int) (c :: r) L = impl_parts.plc (((i + 1 : Nat)) : Int) r (((c.f0, c.f1), (i : Int)) :: L) from rfl]
  obtain ⟨hc, hr⟩ := List.nodup_cons.1 hn
  rw [mget_plc p r (i + 1) _ hr, mget_consP, show ixAt p i (c :: r) = (if c.f0 = p.1 ∧ c.f1 = p.2 then (i : Int) else ixAt p (i + 1) r) from rfl]
  by_cases h : c.f0 = p.1 ∧ c.f1 = p.2
  ·rw [if_pos h, if_pos (by omega : (0 : Int) ≤ (i : Int)), if_pos (Prod.ext h.1 h.2)]
   have hcc : cc p = c := by
    unfold cc
    rw [← h.1, ← h.2]
   have hnm : ¬ 0 ≤ ixAt p (i + 1) r := fun h2 => hc (by rw [← hcc]; exact (ixAt_mem p r (i + 1)).1 h2)
   rw [if_neg hnm]
  ·rw [if_neg h, if_neg (fun e => h ⟨congrArg Prod.fst e, congrArg Prod.snd e⟩)]
def Wds (ds : List Cell) : Prop := ∀ d ∈ ds, (prng d.f0 && prng d.f1) = true
theorem prng_w (x : Int) : prng (wrap64 x) = true := by
 unfold prng wrap64
 simp only [Bool.and_eq_true, decide_eq_true_eq]
 omega
theorem wds_arn {c : Cell} (h : (-1000000 ≤ c.f0 ∧ c.f0 ≤ 1000000) ∧ -1000000 ≤ c.f1 ∧ c.f1 ≤ 1000000) : Wds (arn c) := by
 have p0 : prng c.f0 = true := by unfold prng; simp only [Bool.and_eq_true, decide_eq_true_eq]; omega
 have p1 : prng c.f1 = true := by unfold prng; simp only [Bool.and_eq_true, decide_eq_true_eq]; omega
 intro d hd
 unfold arn at hd
 simp only [List.mem_cons, List.not_mem_nil, or_false] at hd
 rcases hd with rfl | rfl | rfl | rfl <;> simp [p0, p1, prng_w]
theorem stp_app (l : List Cell) (x : Int) : ∀ (ds : List Cell) (o a b : List Int), stpT l x ds (o, a ++ b) = ((stpT l x ds (o, b)).1, a ++ (stpT l x ds (o, b)).2)
 | [], o, a, b => rfl
 | d :: r, o, a, b => by
  rw [stpT_cons, stpT_cons]
  by_cases c : 0 ≤ ixAt (d.f0, d.f1) 0 l ∧ rd o (ixAt (d.f0, d.f1) 0 l) < 0
  ·rw [if_pos c, if_pos c, List.append_assoc]
   exact stp_app l x r _ a _
  ·rw [if_neg c, if_neg c]
   exact stp_app l x r o a b
theorem impl_stp {l : List Cell} (hl : l.length ≤ 100000) (hn : l.Nodup) {x : Int} (hx : 0 ≤ x) : ∀ (ds : List Cell) (o q : List Int), Wds ds → o.length = l.length → negs o + q.length ≤ l.length + 1 → Opens l.length q → impl_parts.stp (impl_parts.plc 0 l []) x ds o q = some (stpT l x ds (o, q))
 | [], o, q, _, _, _, _ => rfl
 | d :: r, o, q, hw, ho, hq, hop => by
  have hwd := hw d List.mem_cons_self
  have hwr : Wds r := fun e he => hw e (List.mem_cons_of_mem _ he)
  have hm := mget_plc (d.f0, d.f1) l 0 [] hn
  have htop := ixAt_top (d.f0, d.f1) l 0
  rw [stpT_cons]
  unfold impl_parts.stp
  rw [if_pos hwd]
  rw [show ((0 : Nat) : Int) = 0 from rfl] at hm
  rw [hm]
  have hst := PI.step hx (M := l.length + 1) (s := (o, q)) ⟨ho, hop, hq⟩ (ixAt (d.f0, d.f1) 0 l) (by omega)
  by_cases h0 : 0 ≤ ixAt (d.f0, d.f1) 0 l
  ·rw [if_pos h0]
   simp only
   rw [if_pos ⟨h0, by omega, by omega⟩]
   by_cases h1 : rd o (ixAt (d.f0, d.f1) 0 l) < 0
   ·rw [if_pos h1, if_pos ⟨h0, h1⟩]
    rw [if_pos ⟨h0, h1⟩] at hst
    exact impl_stp hl hn hx r _ _ hwr hst.1 hst.2.2 hst.2.1
   ·rw [if_neg h1, if_neg (fun c => h1 c.2)]
    exact impl_stp hl hn hx r o q hwr ho hq hop
  ·rw [if_neg h0, show mget ([] : List ((Int × Int) × Int)) (d.f0, d.f1) = none from rfl, if_neg (fun c => h0 c.1)]
   exact impl_stp hl hn hx r o q hwr ho hq hop
theorem impl_bfs {l : List Cell} (hl : l.length ≤ 100000) (hn : l.Nodup) (hi : In 1000000 l) {x : Int} (hx : 0 ≤ x) : ∀ (M : Nat) (o a b : List Int), o.length = l.length → negs o + (a ++ b).length ≤ l.length + 1 → negs o + b.length ≤ M → Opens l.length (a ++ b) →
  Evt (fun k => impl_parts.bfs l (impl_parts.plc 0 l []) x k o (a ++ b) a.length) (bfsT l x M o b)
 | M, o, a, [], ho, hq, hM, hop => by
  have e : bfsT l x M o [] = o := by cases M <;> rfl
  rw [e]
  refine Evt.step (fun k => rfl) ?_
  simp only [impl_parts.bfs]
  exact Evt.ite_neg (by simp) Evt.pure
 | 0, o, a, e :: r, ho, hq, hM, hop => by simp at hM
 | M + 1, o, a, e :: r, ho, hq, hM, hop => by
  have he := hop e (by simp)
  refine Evt.step (fun k => rfl) ?_
  simp only [impl_parts.bfs]
  have hrd : rd (a ++ e :: r) (a.length : Int) = e := by simp [rd]
  rw [hrd]
  obtain ⟨j, rfl⟩ : ∃ j : Nat, e = (j : Int) := ⟨e.toNat, by omega⟩
  have hj : j < l.length := by omega
  have hmem : l.getD j z66 ∈ l := by simp [List.getD_eq_getElem?_getD, List.getElem?_eq_getElem hj]
  refine Evt.ite_pos (by simp) (Evt.ite_pos ⟨by omega, by omega⟩ ?_)
  rw [arn_impl]
  simp only [Option.bind_some]
  have hs := impl_stp hl hn hx (arn (rd_T66 l (j : Int))) o (a ++ (j : Int) :: r) (wds_arn (by rw [rd_getD]; exact hi _ hmem)) ho hq hop
  rw [hs]
  simp only [Option.bind_some]
  rw [show a ++ (j : Int) :: r = (a ++ [(j : Int)]) ++ r by simp, stp_app]
  have hp : PI l.length M (o, r) := ⟨ho, fun y hy => hop y (by simp [hy]), by simp only [List.length_cons] at hM ⊢; omega⟩
  have hp2 : PI l.length (l.length + 1) (o, (a ++ [(j : Int)]) ++ r) := ⟨ho, fun y hy => hop y (by simpa using hy), by simpa using hq⟩
  have h1 := PI.stp hx (arn (rd_T66 l (j : Int))) _ hp
  have h2 := PI.stp hx (arn (rd_T66 l (j : Int))) _ hp2
  rw [stp_app] at h2
  have hlen : a.length + 1 = (a ++ [(j : Int)]).length := by simp
  rw [hlen]
  unfold bfsT
  exact impl_bfs hl hn hi hx M _ _ _ h1.1 h2.2.2 h1.2.2 h2.2.1
theorem impl_outer {l : List Cell} (hl : l.length ≤ 100000) (hn : l.Nodup) (hi : In 1000000 l) : ∀ (d : Nat) (o : List Int), d ≤ l.length → o.length = l.length → Evt (fun k => impl_parts.outer l (impl_parts.plc 0 l []) k d o) (outT l d o)
 | 0, o, hd, ho => Evt.pure
 | d + 1, o, hd, ho => by
  simp only [impl_parts.outer]
  unfold outT
  by_cases h : rd o ((l.length - (d + 1) : Nat) : Int) ≥ 0
  ·rw [if_pos h]
   exact Evt.ite_pos h (impl_outer hl hn hi d o (by omega) ho)
  ·rw [if_neg h]
   refine Evt.ite_neg h ?_
   have hp := start_PI o (l.length - (d + 1)) ho (by omega) (by omega)
   have hb := impl_bfs hl hn hi (x := ((l.length - (d + 1) : Nat) : Int)) (by omega) (l.length + 1) (o.set (l.length - (d + 1)) ((l.length - (d + 1) : Nat) : Int)) [] [((l.length - (d + 1) : Nat) : Int)] hp.1 (by simpa using hp.2.2) (by simpa using hp.2.2) (by simpa using hp.2.1)
   exact hb.bind (impl_outer hl hn hi d _ (by omega) (bfs_len (by omega) _ _ _ hp))
theorem impl_parts_eq {l : List Cell} (hl : l.length ≤ 100000) (hn : l.Nodup) (hi : In 1000000 l) : Evt (fun k => impl_parts.f k l) (outT l l.length (List.replicate l.length (-1))) := by
 unfold impl_parts.f
 refine Evt.ite_pos ⟨by omega, List.all_eq_true.2 fun c hc => ?_⟩ (impl_outer hl hn hi l.length _ (Nat.le_refl _) (by simp))
 have := hi c hc
 unfold prng
 simp only [Bool.and_eq_true, decide_eq_true_eq]
 omega
end Go.Proofs.YtbphiipcnjelbaaGreat.Pure
end
section
namespace Go.Proofs.YtbphiipcnjelbaaGreat.Pure
open Go.RowKit Go.Proofs.YtbphiipcnjelbaaGreat Go.Proofs.YtbphiipcnjelbaaGreat.Q Go.Proofs.YtbphiipcnjelbaaGreatW.PrintWords
set_option linter.unusedVariables false
set_option linter.unusedSimpArgs false
def J (n : Nat) (o : List Int) : Prop := o.length = n ∧ ∀ j, j < n → o.getD j 0 < 0 ∨ (o.getD j 0 < (n : Int) ∧ o.getD (o.getD j 0).toNat 0 = o.getD j 0)
def Keep (o o' : List Int) : Prop := o'.length = o.length ∧ ∀ j, j < o.length → 0 ≤ o.getD j 0 → o'.getD j 0 = o.getD j 0
theorem Keep.refl (o : List Int) : Keep o o := ⟨rfl, fun _ _ _ => rfl⟩
theorem Keep.trans {a b c : List Int} (h : Keep a b) (k : Keep b c) : Keep a c := ⟨k.1.trans h.1, fun j hj h0 => by
 have e := h.2 j hj h0
 rw [k.2 j (by rw [h.1]; exact hj) (by rw [e]; exact h0), e]⟩
theorem getD_set_eq (o : List Int) (t : Nat) (x : Int) (h : t < o.length) : (o.set t x).getD t 0 = x := by
 simp [List.getD_eq_getElem?_getD, h]
theorem getD_set_ne (o : List Int) (t j : Nat) (x : Int) (h : t ≠ j) : (o.set t x).getD j 0 = o.getD j 0 := by
 simp [List.getD_eq_getElem?_getD, h]
theorem J.set {n : Nat} {o : List Int} (h : J n o) {t : Nat} {x : Int} (ht : t < n) (hn : o.getD t 0 < 0) (x0 : 0 ≤ x) (x1 : x < (n : Int)) (hx : x.toNat = t ∨ o.getD x.toNat 0 = x) : J n (o.set t x) ∧ Keep o (o.set t x) ∧ (o.set t x).getD x.toNat 0 = x := by
 obtain ⟨h1, h2⟩ := h
 have hxx : (o.set t x).getD x.toNat 0 = x := by
  by_cases e : t = x.toNat
  ·rw [← e]; exact getD_set_eq o t x (by omega)
  ·rw [getD_set_ne o t _ x e]
   rcases hx with hx | hx
   ·exact absurd hx.symm e
   ·exact hx
 refine ⟨⟨by simpa using h1, fun j hj => ?_⟩, ⟨by simp, fun j hj h0 => ?_⟩, hxx⟩
 ·by_cases e : t = j
  ·subst e
   rw [getD_set_eq o t x (by omega)]
   exact .inr ⟨x1, hxx⟩
  ·rw [getD_set_ne o t j x e]
   rcases h2 j hj with h3 | ⟨h3, h4⟩
   ·exact .inl h3
   ·by_cases h5 : o.getD j 0 < 0
    ·exact .inl h5
    ·refine .inr ⟨h3, ?_⟩
     have hne : t ≠ (o.getD j 0).toNat := fun e2 => by
      rw [← e2] at h4
      omega
     rw [getD_set_ne o t _ x hne]
     exact h4
 ·have e : t ≠ j := fun e => by
   subst e
   omega
  exact getD_set_ne o t j x e
theorem stp_J {l : List Cell} {x : Int} (x0 : 0 ≤ x) (x1 : x < (l.length : Int)) : ∀ (ds : List Cell) (s : List Int × List Int), J l.length s.1 → s.1.getD x.toNat 0 = x → J l.length (stpT l x ds s).1 ∧ Keep s.1 (stpT l x ds s).1 ∧ (stpT l x ds s).1.getD x.toNat 0 = x
 | [], s, h, hx => ⟨h, Keep.refl _, hx⟩
 | d :: r, s, h, hx => by
  rw [stpT_cons]
  have htop := ixAt_top (d.f0, d.f1) l 0
  by_cases c : 0 ≤ ixAt (d.f0, d.f1) 0 l ∧ rd s.1 (ixAt (d.f0, d.f1) 0 l) < 0
  ·rw [if_pos c]
   obtain ⟨h1, h2, h3⟩ := J.set h (t := (ixAt (d.f0, d.f1) 0 l).toNat) (x := x) (by omega) c.2 x0 x1 (.inr hx)
   obtain ⟨k1, k2, k3⟩ := stp_J x0 x1 r (s.1.set (ixAt (d.f0, d.f1) 0 l).toNat x, s.2 ++ [ixAt (d.f0, d.f1) 0 l]) h1 h3
   exact ⟨k1, h2.trans k2, k3⟩
  ·rw [if_neg c]
   exact stp_J x0 x1 r s h hx
theorem bfs_J {l : List Cell} {x : Int} (x0 : 0 ≤ x) (x1 : x < (l.length : Int)) : ∀ (M : Nat) (o q : List Int), J l.length o → o.getD x.toNat 0 = x → J l.length (bfsT l x M o q) ∧ Keep o (bfsT l x M o q)
 | 0, o, q, h, hx => ⟨h, Keep.refl _⟩
 | M + 1, o, [], h, hx => ⟨h, Keep.refl _⟩
 | M + 1, o, e :: r, h, hx => by
  unfold bfsT
  obtain ⟨h1, h2, h3⟩ := stp_J x0 x1 (arn (rd_T66 l e)) (o, r) h hx
  obtain ⟨k1, k2⟩ := bfs_J x0 x1 M _ (stpT l x (arn (rd_T66 l e)) (o, r)).2 h1 h3
  exact ⟨k1, h2.trans k2⟩
theorem out_J {l : List Cell} : ∀ (d : Nat) (o : List Int), d ≤ l.length → J l.length o → J l.length (outT l d o) ∧ Keep o (outT l d o) ∧ ∀ j, l.length - d ≤ j → j < l.length → 0 ≤ (outT l d o).getD j 0
 | 0, o, hd, h => ⟨h, Keep.refl _, fun j h1 h2 => by omega⟩
 | d + 1, o, hd, h => by
  unfold outT
  by_cases c : rd o ((l.length - (d + 1) : Nat) : Int) ≥ 0
  ·rw [if_pos c]
   obtain ⟨k1, k2, k3⟩ := out_J d o (by omega) h
   refine ⟨k1, k2, fun j h1 h2 => ?_⟩
   by_cases e : j = l.length - (d + 1)
   ·rw [rdI, ← e] at c
    rw [k2.2 j (by rw [h.1]; exact h2) c]
    exact c
   ·exact k3 j (by omega) h2
  ·rw [if_neg c]
   rw [rdI] at c
   obtain ⟨h1, h2, h3⟩ := J.set h (t := l.length - (d + 1)) (x := ((l.length - (d + 1) : Nat) : Int)) (by omega) (by omega) (by omega) (by omega) (.inl (Int.toNat_natCast _))
   obtain ⟨b1, b2⟩ := bfs_J (l := l) (x := ((l.length - (d + 1) : Nat) : Int)) (by omega) (by omega) (l.length + 1) _ [((l.length - (d + 1) : Nat) : Int)] h1 h3
   obtain ⟨k1, k2, k3⟩ := out_J d _ (by omega) b1
   refine ⟨k1, (h2.trans b2).trans k2, fun j j1 j2 => ?_⟩
   by_cases e : j = l.length - (d + 1)
   ·subst e
    have hl : l.length - (d + 1) < o.length := by rw [h.1]; omega
    have e1 := (b2.trans k2).2 (l.length - (d + 1)) (by simpa using hl) (by rw [getD_set_eq o _ _ hl]; omega)
    rw [e1, getD_set_eq o _ _ hl]
    omega
   ·exact k3 j (by omega) j2
def prs (l : List Cell) : List Int := outT l l.length (List.replicate l.length (-1))
theorem getD_rep (n j : Nat) (h : j < n) : (List.replicate n (-1 : Int)).getD j 0 = -1 := by
 simp [List.getD_eq_getElem?_getD, h]
theorem prs_len (l : List Cell) : (prs l).length = l.length :=
 (out_J l.length _ (Nat.le_refl _) ⟨by simp, fun j hj => .inl (by rw [getD_rep _ _ hj]; omega)⟩).1.1
theorem prs_root (l : List Cell) : ∀ j, j < l.length → 0 ≤ (prs l).getD j 0 ∧ (prs l).getD j 0 < (l.length : Int) ∧ (prs l).getD ((prs l).getD j 0).toNat 0 = (prs l).getD j 0 := by
 intro j hj
 obtain ⟨h1, h2, h3⟩ := out_J l.length (List.replicate l.length (-1)) (Nat.le_refl _) ⟨by simp, fun j hj => .inl (by rw [getD_rep _ _ hj]; omega)⟩
 have h0 : 0 ≤ (prs l).getD j 0 := h3 j (by omega) hj
 rcases h1.2 j hj with h4 | h4
 ·exact absurd h4 (by
   show ¬ (prs l).getD j 0 < 0
   omega)
 ·exact ⟨h0, h4⟩
end Go.Proofs.YtbphiipcnjelbaaGreat.Pure
end
section
namespace Go.Proofs.YtbphiipcnjelbaaGreat.Pure
open Go.RowKit Go.Proofs.YtbphiipcnjelbaaGreat Go.Proofs.YtbphiipcnjelbaaGreat.Q Go.Proofs.YtbphiipcnjelbaaGreatW.PrintWords
set_option linter.unusedVariables false
set_option linter.unusedSimpArgs false
theorem isCoordinate_eq (x : Int) : impl_isCoordinate.f x = some (Co x) := by
 unfold impl_isCoordinate.f
 rw [within_eq]
 rfl
theorem isNaN_eq (x : Int) : cmp_isNaN_int64.f x = some false := by
 unfold cmp_isNaN_int64.f
 simp
def cmpI (a b : Int) : Int := if a < b then -1 else if a > b then 1 else 0
theorem Compare_eq (a b : Int) : cmp_Compare_int64.f a b = some (cmpI a b) := by
 unfold cmp_Compare_int64.f cmpI
 rw [isNaN_eq, isNaN_eq]
 simp only [Option.bind_some]
 by_cases h1 : a < b
 ·simp [h1]
 ·by_cases h2 : a > b
  ·simp [h1, h2]
  ·simp [h1, h2]
def cmpC (a b : Cell) : Int := if cmpI a.f1 b.f1 = 0 then cmpI a.f0 b.f0 else cmpI a.f1 b.f1
theorem compareCells_eq (a b : Cell) : impl_compareCells.f a.f0 a.f1 b.f0 b.f1 = some (cmpC a b) := by
 unfold impl_compareCells.f cmpC
 rw [Compare_eq, Compare_eq]
 simp only [Option.bind_some]
 by_cases h : cmpI a.f1 b.f1 = 0
 ·rw [if_pos h, if_pos h]
 ·rw [if_neg h, if_neg h]
theorem cmpC_less (a b : Cell) : cmpC a b < 0 ↔ lessC a b = true := by
 unfold cmpC cmpI lessC
 repeat (split)
 all_goals (simp; omega)
theorem impl_IsShape_eq (l : List Cell) (hl : l.length ≤ 9223372036854775807) : Evt (fun k => impl_IsShape.f k l) (Sh l) := by
 unfold impl_IsShape.f
 refine Evt.up (g := fun k i => impl_IsShape.l0 k l l (l.length : Int) (i : Int)) (R := fun i => allF (shOk l) l.length i && decide (1 ≤ l.length ∧ l.length ≤ 40)) (n := l.length) ?_ ?_ 0 (Nat.zero_le _)
 ·refine Evt.step (fun k => rfl) ?_
  simp only [impl_IsShape.l0]
  refine Evt.ite_neg (by omega) ?_
  rw [allF_end]
  by_cases h1 : (l.length : Int) ≥ 1
  ·refine Evt.ite_pos h1 (Evt.const ?_)
   rw [Bool.true_and]
   congr 1
   exact decide_eq_decide.2 (by omega)
  ·refine Evt.ite_neg h1 (Evt.const ?_)
   simp
   omega
 ·intro i hi ih
  refine Evt.step (fun k => rfl) ?_
  simp only [impl_IsShape.l0, isCoordinate_eq, Option.bind_some]
  refine Evt.ite_pos (by omega) (Evt.ite_pos (by omega) (Evt.ite_pos (by omega) ?_))
  rw [allF_succ _ hi]
  simp only [rd_getD]
  by_cases hc0 : Co (l.getD i z66).f0 = true
  ·refine Evt.ite_pos hc0 ?_
   by_cases hc1 : Co (l.getD i z66).f1 = true
   ·refine Evt.ite_pos hc1 ?_
    by_cases h0 : i = 0
    ·subst h0
     refine Evt.ite_neg (by omega) ?_
     rw [wrap_succ hi hl]
     have e : shOk l 0 = true := by unfold shOk; rw [hc0, hc1]; rfl
     rw [e, Bool.true_and]
     exact ih
    ·refine Evt.ite_pos (by omega) ?_
     have ew : wrap64 ((i : Int) - 1) = ((i - 1 : Nat) : Int) := by rw [w64 (by omega) (by omega)]; omega
     simp only [ew, rd_getD, compareCells_eq, Option.bind_some]
     refine Evt.ite_pos (by omega) (Evt.ite_pos (by omega) ?_)
     rw [wrap_succ hi hl]
     have hiff := cmpC_less (l.getD (i - 1) z66) (l.getD i z66)
     by_cases hls : lessC (l.getD (i - 1) z66) (l.getD i z66) = true
     ·refine Evt.ite_neg (by have := hiff.2 hls; omega) ?_
      have e : shOk l i = true := by unfold shOk; rw [hc0, hc1, hls]; simp
      rw [e, Bool.true_and]
      exact ih
     ·refine Evt.ite_pos (by rcases Int.lt_or_le (cmpC (l.getD (i - 1) z66) (l.getD i z66)) 0 with h | h; exact absurd (hiff.1 h) hls; exact h) ?_
      have e : shOk l i = false := by unfold shOk; rw [hc0, hc1, Bool.eq_false_iff.mpr hls]; simp [h0]
      rw [e]
      exact Evt.pure
   ·refine Evt.ite_neg hc1 ?_
    have e : shOk l i = false := by unfold shOk; rw [Bool.eq_false_iff.mpr hc1]; simp
    rw [e]
    exact Evt.pure
  ·refine Evt.ite_neg hc0 ?_
   have e : shOk l i = false := by unfold shOk; rw [Bool.eq_false_iff.mpr hc0]; rfl
   rw [e]
   exact Evt.pure
end Go.Proofs.YtbphiipcnjelbaaGreat.Pure
end
section
namespace Go.Proofs.YtbphiipcnjelbaaGreat.Pure
open Go.RowKit Go.Proofs.YtbphiipcnjelbaaGreat Go.Proofs.YtbphiipcnjelbaaGreat.Q Go.Proofs.YtbphiipcnjelbaaGreatW.PrintWords
set_option linter.unusedVariables false
set_option linter.unusedSimpArgs false
def loX (c : Cell) (r : List Cell) : Int := r.foldl (fun a d => mn a d.f0) c.f0
def loY (c : Cell) (r : List Cell) : Int := r.foldl (fun a d => mn a d.f1) c.f1
def hiX (c : Cell) (r : List Cell) : Int := r.foldl (fun a d => mx a d.f0) c.f0
def hiY (c : Cell) (r : List Cell) : Int := r.foldl (fun a d => mx a d.f1) c.f1
theorem mn_self (a : Int) : mn a a = a := by unfold mn; split <;> rfl
theorem mx_self (a : Int) : mx a a = a := by unfold mx; split <;> rfl
theorem rd_at (c : Cell) (r : List Cell) : rd_T66 (c :: r) 0 = c := by
 have := rd_getD (c :: r) 0
 simpa using this
theorem fold_drop {β : Type} (l : List Cell) (i : Nat) (hi : i < l.length) (f : β → Cell → β) (a : β) : (l.drop i).foldl f a = (l.drop (i + 1)).foldl f (f a (l.getD i z66)) := by
 rw [drop_getD l i z66 hi, List.foldl_cons]
theorem least_eq (c : Cell) (r : List Cell) (hl : (c :: r).length ≤ 100000) : Evt (fun k => spec_l02Least.f k (c :: r)) (loX c r, loY c r) := by
 unfold spec_l02Least.f
 refine Evt.ite_pos (by simp) ?_
 rw [rd_at]
 refine Evt.upS (g := fun k i (s : Int × Int) => spec_l02Least.l0 k (c :: r) s.1 s.2 (i : Int)) (R := fun i s => (((c :: r).drop i).foldl (fun a d => mn a d.f0) s.1, ((c :: r).drop i).foldl (fun a d => mn a d.f1) s.2)) (P := fun _ _ => True) (n := (c :: r).length) ?_ ?_ 1 (c.f0, c.f1) (by simp) trivial
 ·intro s _
  refine Evt.step (fun k => rfl) ?_
  simp only [spec_l02Least.l0]
  rw [List.drop_length]
  exact Evt.ite_neg (by omega) Evt.pure
 ·intro i s hi _ ih
  refine Evt.step (fun k => rfl) ?_
  simp only [spec_l02Least.l0]
  rw [wrap_succ hi (by omega), rd_getD, fold_drop _ i hi, fold_drop _ i hi]
  exact Evt.ite_pos (by omega) (Evt.ite_pos (by omega) (ih (_, _) trivial))
theorem corner_eq (c : Cell) (r : List Cell) (hl : (c :: r).length ≤ 100000) : Evt (fun k => impl_corner.f k (c :: r)) (loX c r, loY c r) := by
 unfold impl_corner.f
 refine Evt.ite_pos (by simp) ?_
 rw [rd_at]
 have key := Evt.upS (g := fun k i (s : Int × Int) => impl_corner.l0 k (c :: r) ((c :: r).length : Int) (i : Int) s.1 s.2) (R := fun i s => (((c :: r).drop i).foldl (fun a d => mn a d.f0) s.1, ((c :: r).drop i).foldl (fun a d => mn a d.f1) s.2)) (P := fun _ _ => True) (n := (c :: r).length) ?_ ?_ 0 (c.f0, c.f1) (Nat.zero_le _) trivial
 ·simp only [List.drop_zero, List.foldl_cons, mn_self] at key
  exact key
 ·intro s _
  refine Evt.step (fun k => rfl) ?_
  simp only [impl_corner.l0]
  rw [List.drop_length]
  exact Evt.ite_neg (by omega) Evt.pure
 ·intro i s hi _ ih
  refine Evt.step (fun k => rfl) ?_
  simp only [impl_corner.l0]
  rw [wrap_succ hi (by omega), rd_getD, fold_drop _ i hi, fold_drop _ i hi]
  exact Evt.ite_pos (by omega) (Evt.ite_pos (by omega) (Evt.ite_pos (by omega) (ih (_, _) trivial)))
theorem reach_eq (c : Cell) (r : List Cell) (hl : (c :: r).length ≤ 100000) : Evt (fun k => impl_reach.f k (c :: r)) (hiX c r, hiY c r) := by
 unfold impl_reach.f
 refine Evt.ite_pos (by simp) ?_
 rw [rd_at]
 have key := Evt.upS (g := fun k i (s : Int × Int) => impl_reach.l0 k (c :: r) ((c :: r).length : Int) (i : Int) s.1 s.2) (R := fun i s => (((c :: r).drop i).foldl (fun a d => mx a d.f0) s.1, ((c :: r).drop i).foldl (fun a d => mx a d.f1) s.2)) (P := fun _ _ => True) (n := (c :: r).length) ?_ ?_ 0 (c.f0, c.f1) (Nat.zero_le _) trivial
 ·simp only [List.drop_zero, List.foldl_cons, mx_self] at key
  exact key
 ·intro s _
  refine Evt.step (fun k => rfl) ?_
  simp only [impl_reach.l0]
  rw [List.drop_length]
  exact Evt.ite_neg (by omega) Evt.pure
 ·intro i s hi _ ih
  refine Evt.step (fun k => rfl) ?_
  simp only [impl_reach.l0]
  rw [wrap_succ hi (by omega), rd_getD, fold_drop _ i hi, fold_drop _ i hi]
  exact Evt.ite_pos (by omega) (Evt.ite_pos (by omega) (Evt.ite_pos (by omega) (ih (_, _) trivial)))
theorem mn_in {a b lo hi : Int} (h1 : lo ≤ a ∧ a ≤ hi) (h2 : lo ≤ b ∧ b ≤ hi) : (lo ≤ mn a b ∧ mn a b ≤ hi) ∧ mn a b ≤ a := by
 unfold mn
 split <;> omega
theorem mx_in {a b lo hi : Int} (h1 : lo ≤ a ∧ a ≤ hi) (h2 : lo ≤ b ∧ b ≤ hi) : (lo ≤ mx a b ∧ mx a b ≤ hi) ∧ a ≤ mx a b := by
 unfold mx
 split <;> omega
theorem fold_mn {lo hi : Int} (f : Cell → Int) : ∀ (r : List Cell) (a : Int), (lo ≤ a ∧ a ≤ hi) → (∀ d ∈ r, lo ≤ f d ∧ f d ≤ hi) → (lo ≤ r.foldl (fun a d => mn a (f d)) a ∧ r.foldl (fun a d => mn a (f d)) a ≤ hi) ∧ r.foldl (fun a d => mn a (f d)) a ≤ a
 | [], a, h, _ => ⟨h, Int.le_refl _⟩
 | d :: r, a, h, hr => by
  obtain ⟨h1, h2⟩ := mn_in h (hr d List.mem_cons_self)
  obtain ⟨h3, h4⟩ := fold_mn f r _ h1 (fun e he => hr e (List.mem_cons_of_mem _ he))
  exact ⟨h3, by rw [List.foldl_cons]; omega⟩
theorem fold_mx {lo hi : Int} (f : Cell → Int) : ∀ (r : List Cell) (a : Int), (lo ≤ a ∧ a ≤ hi) → (∀ d ∈ r, lo ≤ f d ∧ f d ≤ hi) → (lo ≤ r.foldl (fun a d => mx a (f d)) a ∧ r.foldl (fun a d => mx a (f d)) a ≤ hi) ∧ a ≤ r.foldl (fun a d => mx a (f d)) a
 | [], a, h, _ => ⟨h, Int.le_refl _⟩
 | d :: r, a, h, hr => by
  obtain ⟨h1, h2⟩ := mx_in h (hr d List.mem_cons_self)
  obtain ⟨h3, h4⟩ := fold_mx f r _ h1 (fun e he => hr e (List.mem_cons_of_mem _ he))
  exact ⟨h3, by rw [List.foldl_cons]; omega⟩
theorem fold_shift (f : Cell → Int) (x : Int) : ∀ (r : List Cell) (a : Int), r.foldl (fun a d => mx a (f d - x + 1)) (a - x + 1) = r.foldl (fun a d => mx a (f d)) a - x + 1
 | [], a => rfl
 | d :: r, a => by
  rw [List.foldl_cons, List.foldl_cons, ← fold_shift f x r (mx a (f d))]
  congr 1
  unfold mx
  by_cases h : a < f d
  ·rw [if_pos h, if_pos (by omega)]
  ·rw [if_neg h, if_neg (by omega)]
def Sml (l : List Cell) : Prop := ∀ c ∈ l, (-100 ≤ c.f0 ∧ c.f0 ≤ 100) ∧ -100 ≤ c.f1 ∧ c.f1 ≤ 100
theorem box_in {c : Cell} {r : List Cell} (h : Sml (c :: r)) : ((-100 ≤ loX c r ∧ loX c r ≤ c.f0) ∧ -100 ≤ loY c r ∧ loY c r ≤ c.f1) ∧ (c.f0 ≤ hiX c r ∧ hiX c r ≤ 100) ∧ c.f1 ≤ hiY c r ∧ hiY c r ≤ 100 := by
 have hc := h c List.mem_cons_self
 have a1 := fold_mn (lo := -100) (hi := 100) (fun d => d.f0) r c.f0 hc.1 (fun d hd => (h d (List.mem_cons_of_mem _ hd)).1)
 have a2 := fold_mn (lo := -100) (hi := 100) (fun d => d.f1) r c.f1 hc.2 (fun d hd => (h d (List.mem_cons_of_mem _ hd)).2)
 have a3 := fold_mx (lo := -100) (hi := 100) (fun d => d.f0) r c.f0 hc.1 (fun d hd => (h d (List.mem_cons_of_mem _ hd)).1)
 have a4 := fold_mx (lo := -100) (hi := 100) (fun d => d.f1) r c.f1 hc.2 (fun d hd => (h d (List.mem_cons_of_mem _ hd)).2)
 unfold loX loY hiX hiY
 omega
theorem size_eq (c : Cell) (r : List Cell) (hl : (c :: r).length ≤ 100000) (h : Sml (c :: r)) : Evt (fun k => spec_l04Size.f k (c :: r)) (hiX c r - loX c r + 1, hiY c r - loY c r + 1) := by
 unfold spec_l04Size.f
 refine (least_eq c r hl).bind ?_
 simp only
 have hb := box_in h
 have hc := h c List.mem_cons_self
 generalize loX c r = x at hb ⊢
 generalize loY c r = y at hb ⊢
 have key := Evt.upS (g := fun k i (s : Int × Int) => spec_l04Size.l0 k (c :: r) x y s.1 s.2 (i : Int)) (R := fun i s => (((c :: r).drop i).foldl (fun a d => mx a (d.f0 - x + 1)) s.1, ((c :: r).drop i).foldl (fun a d => mx a (d.f1 - y + 1)) s.2)) (P := fun _ _ => True) (n := (c :: r).length) ?_ ?_ 0 (0, 0) (Nat.zero_le _) trivial
 ·simp only [List.drop_zero, List.foldl_cons] at key
  rw [show mx 0 (c.f0 - x + 1) = c.f0 - x + 1 by unfold mx; rw [if_pos (by omega)], show mx 0 (c.f1 - y + 1) = c.f1 - y + 1 by unfold mx; rw [if_pos (by omega)], fold_shift (fun d => d.f0) x r c.f0, fold_shift (fun d => d.f1) y r c.f1] at key
  exact key
 ·intro s _
  refine Evt.step (fun k => rfl) ?_
  simp only [spec_l04Size.l0]
  rw [List.drop_length]
  exact Evt.ite_neg (by omega) Evt.pure
 ·intro i s hi _ ih
  refine Evt.step (fun k => rfl) ?_
  simp only [spec_l04Size.l0]
  have hd := h _ (show (c :: r).getD i z66 ∈ c :: r by simp only [List.getD_eq_getElem?_getD, List.getElem?_eq_getElem hi, Option.getD_some]; exact List.getElem_mem hi)
  rw [wrap_succ hi (by omega), rd_getD, fold_drop _ i hi, fold_drop _ i hi]
  generalize (c :: r).getD i z66 = d at hd ⊢
  rw [w64 (n := d.f0 - x) (by omega) (by omega), w64 (n := d.f1 - y) (by omega) (by omega), w64 (n := d.f0 - x + 1) (by omega) (by omega), w64 (n := d.f1 - y + 1) (by omega) (by omega)]
  exact Evt.ite_pos (by omega) (Evt.ite_pos (by omega) (ih (_, _) trivial))
theorem move_eq (l : List Cell) (a b : Int) (hl : l.length ≤ 100000) : Evt (fun k => spec_l02Move.f k l a b) (l.map (impl_moved.g a b)) := by
 unfold spec_l02Move.f
 have key := Evt.upS (g := fun k i (s : List Cell) => spec_l02Move.l0 k l a b s (i : Int)) (R := fun i s => s ++ (l.drop i).map (impl_moved.g a b)) (P := fun i s => s.length = i) (n := l.length) ?_ ?_ 0 [] (Nat.zero_le _) rfl
 ·simpa using key
 ·intro s hs
  refine Evt.step (fun k => rfl) ?_
  simp only [spec_l02Move.l0]
  rw [List.drop_length, List.map_nil, List.append_nil]
  exact Evt.ite_neg (by omega) Evt.pure
 ·intro i s hi hs ih
  refine Evt.step (fun k => rfl) ?_
  simp only [spec_l02Move.l0]
  rw [wrap_succ hi (by omega), rd_getD, drop_getD l i z66 hi, List.map_cons]
  have h := ih (s ++ [impl_moved.g a b (l.getD i z66)]) (by rw [List.length_append, List.length_singleton, hs])
  rw [List.append_assoc, List.singleton_append] at h
  exact Evt.ite_pos (by omega) (Evt.ite_pos (by omega) (Evt.ite_pos (by omega) h))
end Go.Proofs.YtbphiipcnjelbaaGreat.Pure
end
section
namespace Go.Proofs.YtbphiipcnjelbaaGreat.Pure
open Go.RowKit Go.Proofs.YtbphiipcnjelbaaGreat Go.Proofs.YtbphiipcnjelbaaGreat.Q Go.Proofs.YtbphiipcnjelbaaGreatW.PrintWords
set_option linter.unusedVariables false
set_option linter.unusedSimpArgs false
theorem sh_less {l : List Cell} (h : Sh l = true) : ∀ (d i : Nat), i + d + 1 < l.length → lessC (l.getD i z66) (l.getD (i + d + 1) z66) = true := by
 unfold Sh at h
 rw [Bool.and_eq_true] at h
 have h1 := allF_true.1 h.1
 have step : ∀ j, j + 1 < l.length → lessC (l.getD j z66) (l.getD (j + 1) z66) = true := by
  intro j hj
  have h2 := h1 (j + 1) (Nat.zero_le _) hj
  unfold shOk at h2
  simp only [Bool.and_eq_true, Bool.or_eq_true, decide_eq_true_eq] at h2
  rcases h2.2 with h3 | h3
  ·omega
  ·simpa using h3
 intro d
 induction d with
 | zero => intro i hi; exact step i (by omega)
 | succ d ih =>
  intro i hi
  have a := ih i (by omega)
  have b := step (i + d + 1) (by omega)
  rw [show i + (d + 1) + 1 = i + d + 1 + 1 by omega]
  unfold lessC at *
  simp only [Bool.or_eq_true, Bool.and_eq_true, decide_eq_true_eq] at *
  omega
theorem sh_nodup {l : List Cell} (h : Sh l = true) : l.Nodup := by
 rw [List.Nodup, List.pairwise_iff_getElem]
 intro i j hi hj hij e
 have h1 := sh_less h (j - i - 1) i (by omega)
 rw [show i + (j - i - 1) + 1 = j by omega] at h1
 simp only [List.getD_eq_getElem?_getD, List.getElem?_eq_getElem hi, List.getElem?_eq_getElem hj, Option.getD_some, e] at h1
 unfold lessC at h1
 simp at h1
theorem sh_in {l : List Cell} (h : Sh l = true) : In 1000000 l := fun c hc => by
 have := Sh_co h c hc
 omega
theorem one_eq (p : List Int) (hp : p.length ≤ 100000) : Evt (fun k => spec_l02One.f k p) (p.all fun x => decide (x = 0)) := by
 unfold spec_l02One.f
 refine Evt.up (g := fun k i => spec_l02One.l0 k p (i : Int)) (R := fun i => (p.drop i).all fun x => decide (x = 0)) (n := p.length) ?_ ?_ 0 (Nat.zero_le _)
 ·refine Evt.step (fun k => rfl) ?_
  simp only [spec_l02One.l0]
  rw [List.drop_length]
  exact Evt.ite_neg (by omega) Evt.pure
 ·intro i hi ih
  refine Evt.step (fun k => rfl) ?_
  simp only [spec_l02One.l0]
  rw [wrap_succ hi (by omega), rdI, drop_getD p i 0 hi, List.all_cons]
  refine Evt.ite_pos (by omega) (Evt.ite_pos (by omega) ?_)
  by_cases h : p.getD i 0 = 0
  ·rw [decide_eq_true h, Bool.true_and]
   exact Evt.ite_pos h ih
  ·rw [decide_eq_false h, Bool.false_and]
   exact Evt.ite_neg h Evt.pure
theorem mxs_zero : ∀ (r : List Int) (x : Int), 0 ≤ x → (∀ y ∈ r, 0 ≤ y) → (impl_IsPiece.mxs x r = 0 ↔ x = 0 ∧ ∀ y ∈ r, y = 0)
 | [], x, h, _ => by simp [impl_IsPiece.mxs]
 | y :: r, x, h, hr => by
  have hy := hr y List.mem_cons_self
  unfold impl_IsPiece.mxs
  have hm : 0 ≤ mx x y ∧ (mx x y = 0 ↔ x = 0 ∧ y = 0) := by unfold mx; split <;> omega
  rw [mxs_zero r (mx x y) hm.1 (fun z hz => hr z (List.mem_cons_of_mem _ hz)), hm.2]
  constructor
  ·rintro ⟨⟨h1, h2⟩, h3⟩
   exact ⟨h1, fun z hz => by rcases List.mem_cons.1 hz with e | e; exact e ▸ h2; exact h3 z e⟩
  ·rintro ⟨h1, h2⟩
   exact ⟨⟨h1, h2 y List.mem_cons_self⟩, fun z hz => h2 z (List.mem_cons_of_mem _ hz)⟩
theorem prs_nonneg (l : List Cell) : ∀ y ∈ prs l, 0 ≤ y := by
 intro y hy
 obtain ⟨j, hj, rfl⟩ := List.getElem_of_mem hy
 have := (prs_root l j (by rw [← prs_len]; exact hj)).1
 simpa [List.getD_eq_getElem?_getD, List.getElem?_eq_getElem hj] using this
theorem region_both (l : List Cell) (hl : l.length ≤ 1048576) : ∃ b, Evt (fun k => spec_IsRegion.f k l) b ∧ Evt (fun k => impl_IsRegion.f k l) b ∧ (b = true → Sh l = true) := by
 unfold spec_IsRegion.f impl_IsRegion.f
 by_cases hs : Sh l = true
 ·have h40 := Sh_len hs
  cases l with
  | nil => simp at h40
  | cons c r =>
   have hlen : (c :: r).length ≤ 100000 := by omega
   have hS : Sml (c :: r) := fun d hd => Sh_co hs d hd
   have h1 := size_eq c r hlen hS
   have h2 := least_eq c r hlen
   have h3 := corner_eq c r hlen
   have h4 := reach_eq c r hlen
   generalize loX c r = a at h1 h2 h3
   generalize loY c r = b at h1 h2 h3
   generalize hiX c r = u at h1 h4
   generalize hiY c r = v at h1 h4
   have e1 := spec_IsShape_eq (c :: r) (by omega)
   have e2 := impl_IsShape_eq (c :: r) (by omega)
   by_cases ha : a = 0
   ·by_cases hb : b = 0
    ·subst ha
     subst hb
     refine ⟨decide (u < 20) && decide (v < 20), e1.bind (Evt.ite_pos hs (h1.bind (h2.bind (Evt.ite_pos rfl (Evt.ite_pos rfl ?_))))), e2.bind (Evt.ite_pos hs (h3.bind (Evt.ite_neg (by simp) (h4.bind ?_)))), fun _ => hs⟩
     ·by_cases hu : u < 20
      ·rw [decide_eq_true hu, Bool.true_and]
       refine Evt.ite_pos (by simp only; omega) (Evt.const ?_)
       congr 1
       exact decide_eq_decide.2 (by simp only; omega)
      ·rw [decide_eq_false hu, Bool.false_and]
       exact Evt.ite_neg (by simp only; omega) Evt.pure
     ·by_cases hu : u < 20
      ·rw [decide_eq_true hu, Bool.true_and]
       exact Evt.ite_pos hu Evt.pure
      ·rw [decide_eq_false hu, Bool.false_and]
       exact Evt.ite_neg hu Evt.pure
    ·refine ⟨false, e1.bind (Evt.ite_pos hs (h1.bind (h2.bind (Evt.ite_pos ha (Evt.ite_neg hb Evt.pure))))), e2.bind (Evt.ite_pos hs (h3.bind (Evt.ite_pos (by simp [hb]) Evt.pure))), by simp⟩
   ·refine ⟨false, e1.bind (Evt.ite_pos hs (h1.bind (h2.bind (Evt.ite_neg ha Evt.pure)))), e2.bind (Evt.ite_pos hs (h3.bind (Evt.ite_pos (by simp [ha]) Evt.pure))), by simp⟩
 ·exact ⟨false, (spec_IsShape_eq l (by omega)).bind (Evt.ite_neg hs Evt.pure), (impl_IsShape_eq l (by omega)).bind (Evt.ite_neg hs Evt.pure), by simp⟩
theorem piece_both (l : List Cell) (n : Int) (m : Bool) (hl : l.length ≤ 1048576) : ∃ b, Evt (fun k => spec_IsPiece.f k l n m) b ∧ Evt (fun k => impl_IsPiece.f k l n m) b ∧ (b = true → Sh l = true) := by
 unfold spec_IsPiece.f impl_IsPiece.f
 obtain ⟨b, b1, b2, b3⟩ := region_both l hl
 cases b
 ·exact ⟨false, b1.bind (Evt.ite_neg (by simp) Evt.pure), b2.bind (Evt.ite_neg (by simp) Evt.pure), by simp⟩
 ·have hs := b3 rfl
  have h40 := Sh_len hs
  have hin := in_eq n 1 8
  have hwi := within_eq n 1 8
  generalize decide (1 ≤ n ∧ n ≤ 8) = z at hin hwi
  have hsp : Evt (fun k => spec_IsConnected.f k l) ((prs l).all fun x => decide (x = 0)) := by
   unfold spec_IsConnected.f
   refine (spec_IsShape_eq l (by omega)).bind (Evt.ite_pos hs ?_)
   refine (spec_parts (l := l) (by omega)).bind ((one_eq _ ?_).bind Evt.pure)
   have := prs_len l
   unfold prs at this
   omega
  have him := impl_parts_eq (l := l) (by omega) (sh_nodup hs) (sh_in hs)
  rw [show outT l l.length (List.replicate l.length (-1)) = prs l from rfl] at him
  have hlen := prs_len l
  have hnn := prs_nonneg l
  generalize prs l = p at hlen hnn hsp him
  cases p with
  | nil => simp at hlen; omega
  | cons x r =>
   have e := mxs_zero r x (hnn x List.mem_cons_self) (fun y hy => hnn y (List.mem_cons_of_mem _ hy))
   by_cases h0 : impl_IsPiece.mxs x r = 0
   ·have ht : ((x :: r).all fun x => decide (x = 0)) = true := by
     have := e.1 h0
     simp [this.1]
     exact this.2
    rw [ht] at hsp
    refine ⟨z, b1.bind (Evt.ite_pos rfl (hsp.bind (Evt.ite_pos rfl ((Evt.const hin).bind Evt.pure)))), b2.bind (Evt.ite_pos rfl (him.bind (Evt.ite_pos h0 (Evt.const hwi)))), fun _ => hs⟩
   ·have ht : ((x :: r).all fun x => decide (x = 0)) = false := by
     rw [Bool.eq_false_iff]
     intro h
     apply h0
     apply e.2
     simp at h
     exact ⟨h.1, h.2⟩
    rw [ht] at hsp
    refine ⟨false, b1.bind (Evt.ite_pos rfl (hsp.bind (Evt.ite_neg (by simp) Evt.pure))), b2.bind (Evt.ite_pos rfl (him.bind (Evt.ite_neg h0 Evt.pure))), by simp⟩
end Go.Proofs.YtbphiipcnjelbaaGreat.Pure
end
section
namespace Go.Proofs.YtbphiipcnjelbaaGreat.Pure
open Go.RowKit Go.Proofs.YtbphiipcnjelbaaGreat Go.Proofs.YtbphiipcnjelbaaGreat.Q Go.Proofs.YtbphiipcnjelbaaGreatW.PrintWords
set_option linter.unusedVariables false
set_option linter.unusedSimpArgs false
theorem getD_cell (l : List Cell) (i : Nat) : (⟨(l.getD i z66).f0, (l.getD i z66).f1⟩ : Cell) = l.getD i z66 := rfl
def ins (c : Cell) : List Cell → List Cell
 | [] => [c]
 | d :: r => if lessC c d = true then c :: d :: r else d :: ins c r
theorem ins_perm (c : Cell) : ∀ l : List Cell, (ins c l).Perm (c :: l)
 | [] => List.Perm.refl _
 | d :: r => by
  unfold ins
  by_cases h : lessC c d = true
  ·rw [if_pos h]
  ·rw [if_neg h]
   exact ((ins_perm c r).cons d).trans (List.Perm.swap _ _ _)
theorem ins_len (c : Cell) (l : List Cell) : (ins c l).length = l.length + 1 := (ins_perm c l).length_eq
theorem ins_mem {c d : Cell} {l : List Cell} : d ∈ ins c l ↔ d = c ∨ d ∈ l := by rw [(ins_perm c l).mem_iff, List.mem_cons]
theorem insert_done (l : List Cell) (x y : Int) (hl : l.length ≤ 1000000) : ∀ (i : Nat) (out : List Cell), i ≤ l.length → out.length = i + 1 → Evt (fun k => spec_l02Insert.l0 k l out true (i : Int) x y) (out ++ l.drop i) := by
 refine Evt.upS (g := fun k i out => spec_l02Insert.l0 k l out true (i : Int) x y) (R := fun i out => out ++ l.drop i) (P := fun i out => out.length = i + 1) ?_ ?_
 ·intro out _
  refine Evt.step (fun k => rfl) ?_
  simp only [spec_l02Insert.l0]
  refine Evt.ite_neg (by omega) (Evt.ite_pos trivial ?_)
  rw [List.drop_length, List.append_nil]
  exact Evt.pure
 ·intro i out hi hp ih
  refine Evt.step (fun k => rfl) ?_
  simp only [spec_l02Insert.l0, rd_getD, getD_cell]
  refine Evt.ite_pos (by omega) (Evt.ite_pos trivial (Evt.ite_pos (by omega) (Evt.ite_pos (by omega) ?_)))
  rw [wrap_succ hi (by omega), drop_getD l i z66 hi]
  have := ih (out ++ [l.getD i z66]) (by simp [hp])
  rw [List.append_assoc] at this
  exact this
theorem l02Insert_eq (l : List Cell) (c : Cell) (hl : l.length ≤ 1000000) : Evt (fun k => spec_l02Insert.f k l c.f0 c.f1) (ins c l) := by
 unfold spec_l02Insert.f
 have h := Evt.upS (g := fun k i out => spec_l02Insert.l0 k l out false (i : Int) c.f0 c.f1) (R := fun i out => out ++ ins c (l.drop i)) (P := fun i out => out.length = i) (n := l.length) ?_ ?_ 0 [] (Nat.zero_le _) rfl
 ·exact h
 ·intro out hp
  refine Evt.step (fun k => rfl) ?_
  simp only [spec_l02Insert.l0]
  refine Evt.ite_neg (by omega) (Evt.ite_neg (by simp) (Evt.ite_pos (by omega) ?_))
  rw [List.drop_length]
  exact Evt.pure
 ·intro i out hi hp ih
  refine Evt.step (fun k => rfl) ?_
  simp only [spec_l02Insert.l0, rd_getD, getD_cell, l02Less_eq, Option.bind_some]
  refine Evt.ite_pos (by omega) (Evt.ite_neg (by simp) (Evt.ite_pos (by omega) ?_))
  rw [drop_getD l i z66 hi, wrap_succ hi (by omega)]
  unfold ins
  by_cases hc : lessC c (l.getD i z66) = true
  ·rw [if_pos hc]
   refine Evt.ite_pos hc (Evt.ite_pos (by omega) (Evt.ite_pos (by simp; omega) ?_))
   have := insert_done l c.f0 c.f1 hl (i + 1) ((out ++ [c]) ++ [l.getD i z66]) (by omega) (by simp [hp])
   rw [List.append_assoc, List.append_assoc] at this
   rw [List.append_assoc]
   exact this
  ·rw [if_neg hc]
   refine Evt.ite_neg hc (Evt.ite_pos (by omega) ?_)
   have := ih (out ++ [l.getD i z66]) (by simp [hp])
   rw [List.append_assoc] at this
   exact this
end Go.Proofs.YtbphiipcnjelbaaGreat.Pure
end
section
namespace Go.Proofs.YtbphiipcnjelbaaGreat.Pure
open Go.RowKit Go.Proofs.YtbphiipcnjelbaaGreat Go.Proofs.YtbphiipcnjelbaaGreat.Q Go.Proofs.YtbphiipcnjelbaaGreatW.PrintWords
set_option linter.unusedVariables false
set_option linter.unusedSimpArgs false
theorem lessC_iff (a b : Cell) : lessC a b = true ↔ (a.f1 < b.f1 ∨ (a.f1 = b.f1 ∧ a.f0 < b.f0)) := by simp [lessC]
theorem cell_ext {a b : Cell} (h0 : a.f0 = b.f0) (h1 : a.f1 = b.f1) : a = b := by cases a; cases b; simp at *; exact ⟨h0, h1⟩
theorem lessC_irr (a : Cell) : ¬ lessC a a = true := by rw [lessC_iff]; omega
theorem lessC_tr {a b c : Cell} (h : lessC a b = true) (h2 : lessC b c = true) : lessC a c = true := by rw [lessC_iff] at *; omega
theorem lessC_tot {a b : Cell} (h : ¬ lessC a b = true) (hne : a ≠ b) : lessC b a = true := by
 rw [lessC_iff] at *
 by_cases h0 : a.f0 = b.f0
 ·by_cases h1 : a.f1 = b.f1
  ·exact absurd (cell_ext h0 h1) hne
  ·omega
 ·omega
def Srt (l : List Cell) : Prop := l.Pairwise fun a b => lessC a b = true
theorem srt_ext : ∀ {l m : List Cell}, Srt l → Srt m → (∀ c, c ∈ l ↔ c ∈ m) → l = m
 | [], [], _, _, _ => rfl
 | [], b :: m, _, _, h => absurd ((h b).2 (by simp)) (by simp)
 | a :: l, [], _, _, h => absurd ((h a).1 (by simp)) (by simp)
 | a :: l, b :: m, h1, h2, h => by
  obtain ⟨p1, q1⟩ := List.pairwise_cons.1 h1
  obtain ⟨p2, q2⟩ := List.pairwise_cons.1 h2
  have hab : a = b := by
   rcases List.mem_cons.1 ((h a).1 (by simp)) with e | e
   ·exact e
   ·rcases List.mem_cons.1 ((h b).2 (by simp)) with e2 | e2
    ·exact e2.symm
    ·exact absurd (lessC_tr (p1 b e2) (p2 a e)) (lessC_irr a)
  subst hab
  congr 1
  refine srt_ext q1 q2 fun c => ?_
  have hc := h c
  rw [List.mem_cons, List.mem_cons] at hc
  constructor
  ·intro hm
   rcases hc.1 (Or.inr hm) with e | e
   ·subst e; exact absurd (p1 c hm) (lessC_irr c)
   ·exact e
  ·intro hm
   rcases hc.2 (Or.inr hm) with e | e
   ·subst e; exact absurd (p2 c hm) (lessC_irr c)
   ·exact e
theorem ins_srt (c : Cell) : ∀ {l : List Cell}, Srt l → c ∉ l → Srt (ins c l)
 | [], _, _ => by unfold ins Srt; simp
 | d :: r, h, hc => by
  obtain ⟨p, q⟩ := List.pairwise_cons.1 h
  rw [List.mem_cons, not_or] at hc
  unfold ins
  by_cases hl : lessC c d = true
  ·rw [if_pos hl]
   refine List.pairwise_cons.2 ⟨fun x hx => ?_, h⟩
   rcases List.mem_cons.1 hx with e | e
   ·rw [e]; exact hl
   ·exact lessC_tr hl (p x e)
  ·rw [if_neg hl]
   refine List.pairwise_cons.2 ⟨fun x hx => ?_, ins_srt c q hc.2⟩
   rcases ins_mem.1 hx with e | e
   ·rw [e]; exact lessC_tot hl hc.1
   ·exact p x e
theorem lt_less (a b : Cell) : ltOf cmpC2 a b = lessC a b := by
 rw [cmp_lt, Bool.eq_iff_iff, lessC_iff, decide_eq_true_eq]
theorem sortQ_mem (l : List Cell) (c : Cell) : c ∈ Q.sortC l ↔ c ∈ l := by unfold Q.sortC; exact List.mem_mergeSort
theorem sortQ_srt (l : List Cell) : (Q.sortC l).Pairwise fun a b => ¬ lessC b a = true := by
 unfold Q.sortC
 have h := List.pairwise_mergeSort (le := fun x y : Cell => !(ltOf cmpC2) y x) (fun a b c h1 h2 => by
  simp only [lt_less, Bool.not_eq_true', ← Bool.not_eq_true] at *
  rw [lessC_iff] at *
  omega) (fun a b => by
  simp only [lt_less, Bool.or_eq_true, Bool.not_eq_true', ← Bool.not_eq_true]
  rw [lessC_iff, lessC_iff]
  omega) l
 refine h.imp ?_
 intro a b hab
 simp only [lt_less, Bool.not_eq_true', ← Bool.not_eq_true] at hab
 exact hab
end Go.Proofs.YtbphiipcnjelbaaGreat.Pure
end
section
namespace Go.Proofs.YtbphiipcnjelbaaGreat.Pure
open Go.RowKit Go.Proofs.YtbphiipcnjelbaaGreat Go.Proofs.YtbphiipcnjelbaaGreat.Q Go.Proofs.YtbphiipcnjelbaaGreatW.PrintWords
set_option linter.unusedVariables false
set_option linter.unusedSimpArgs false
def rot (p : Int × Int) : Int × Int := (wrap64 (-p.2), p.1)
def rotN : Nat → Int × Int → Int × Int
 | 0, p => p
 | n + 1, p => rotN n (rot p)
def mir (t : Nat) (c : Cell) : Int × Int := if 4 ≤ t then (wrap64 (-c.f0), c.f1) else (c.f0, c.f1)
def trn (t : Nat) (c : Cell) : Cell := ⟨(rotN (t % 4) (mir t c)).1, (rotN (t % 4) (mir t c)).2⟩
theorem spec_rot : ∀ (n : Nat) (x y : Int), n ≤ 100 → Evt (fun k => spec_l03Turn.l0 k (n : Int) x y) (rotN n (x, y))
 | 0, x, y, _ => by
  refine Evt.step (fun k => rfl) ?_
  simp only [spec_l03Turn.l0]
  exact Evt.ite_neg (by omega) Evt.pure
 | n + 1, x, y, h => by
  refine Evt.step (fun k => rfl) ?_
  simp only [spec_l03Turn.l0]
  refine Evt.ite_pos (by omega) ?_
  rw [w64 (n := ((n + 1 : Nat) : Int) - 1) (by omega) (by omega), show ((n + 1 : Nat) : Int) - 1 = (n : Int) by omega]
  exact spec_rot n (wrap64 (-y)) x (by omega)
theorem impl_rot (m : Nat) (hm : m ≤ 100) : ∀ (d : Nat) (x y : Int), d ≤ m → Evt (fun k => impl_turnCell.l0 k (m : Int) ((m - d : Nat) : Int) x y) (rotN d (x, y))
 | 0, x, y, _ => by
  refine Evt.step (fun k => rfl) ?_
  simp only [impl_turnCell.l0]
  exact Evt.ite_neg (by omega) Evt.pure
 | d + 1, x, y, h => by
  refine Evt.step (fun k => rfl) ?_
  simp only [impl_turnCell.l0]
  refine Evt.ite_pos (by omega) ?_
  rw [w64 (n := ((m - (d + 1) : Nat) : Int) + 1) (by omega) (by omega), show ((m - (d + 1) : Nat) : Int) + 1 = ((m - d : Nat) : Int) by omega]
  exact impl_rot m hm d (wrap64 (-y)) x (by omega)
theorem tm4 (t : Nat) : Int.tmod (t : Int) 4 = ((t % 4 : Nat) : Int) := by
 rw [Int.tmod_eq_emod_of_nonneg (by omega)]
 omega
theorem spec_turn (c : Cell) (t : Nat) : Evt (fun k => spec_l03Turn.f k c.f0 c.f1 (t : Int)) ((trn t c).f0, (trn t c).f1) := by
 have key : ∀ x y, Evt (fun k => spec_l03Turn.j0 k (t : Int) x y) (rotN (t % 4) (x, y)) := by
  intro x y
  refine Evt.step (fun k => rfl) ?_
  simp only [spec_l03Turn.j0]
  rw [tm4]
  exact spec_rot _ x y (by omega)
 unfold spec_l03Turn.f trn mir
 by_cases h : 4 ≤ t
 ·rw [if_pos h]
  exact Evt.ite_pos (by omega) (key _ _)
 ·rw [if_neg h]
  exact Evt.ite_neg (by omega) (key _ _)
theorem impl_turn (c : Cell) (t : Nat) : Evt (fun k => impl_turnCell.f k c.f0 c.f1 (t : Int)) ((trn t c).f0, (trn t c).f1) := by
 have key : ∀ x y, Evt (fun k => impl_turnCell.j0 k (t : Int) x y) (rotN (t % 4) (x, y)) := by
  intro x y
  refine Evt.step (fun k => rfl) ?_
  simp only [impl_turnCell.j0]
  rw [tm4]
  have h := impl_rot (t % 4) (by omega) (t % 4) x y (Nat.le_refl _)
  rw [Nat.sub_self] at h
  exact h
 unfold impl_turnCell.f trn mir
 by_cases h : 4 ≤ t
 ·rw [if_pos h]
  exact Evt.ite_pos (by omega) (key _ _)
 ·rw [if_neg h]
  exact Evt.ite_neg (by omega) (key _ _)
def small1 (p : Int × Int) : Prop := (-100 ≤ p.1 ∧ p.1 ≤ 100) ∧ -100 ≤ p.2 ∧ p.2 ≤ 100
theorem rot_small {p : Int × Int} (h : small1 p) : small1 (rot p) ∧ rot p = (-p.2, p.1) := by
 unfold small1 at *
 have e : rot p = (-p.2, p.1) := by unfold rot; rw [w64 (by omega) (by omega)]
 rw [e]
 exact ⟨by simp only; omega, rfl⟩
theorem rot_inj : ∀ (n : Nat) {p q : Int × Int}, small1 p → small1 q → rotN n p = rotN n q → p = q
 | 0, p, q, _, _, h => h
 | n + 1, p, q, hp, hq, h => by
  have a := rot_small hp
  have b := rot_small hq
  have e := rot_inj n a.1 b.1 h
  rw [a.2, b.2] at e
  have e1 := congrArg Prod.fst e
  have e2 := congrArg Prod.snd e
  simp only at e1 e2
  exact Prod.ext e2 (by omega)
theorem mir_small (t : Nat) {c : Cell} (h : (-100 ≤ c.f0 ∧ c.f0 ≤ 100) ∧ -100 ≤ c.f1 ∧ c.f1 ≤ 100) : small1 (mir t c) ∧ mir t c = (if 4 ≤ t then -c.f0 else c.f0, c.f1) := by
 unfold mir small1
 by_cases h4 : 4 ≤ t
 ·rw [if_pos h4, if_pos h4, w64 (by omega) (by omega)]
  exact ⟨by simp only; omega, rfl⟩
 ·rw [if_neg h4, if_neg h4]
  exact ⟨by simp only; omega, rfl⟩
theorem trn_inj {t : Nat} {c d : Cell} (hc : (-100 ≤ c.f0 ∧ c.f0 ≤ 100) ∧ -100 ≤ c.f1 ∧ c.f1 ≤ 100) (hd : (-100 ≤ d.f0 ∧ d.f0 ≤ 100) ∧ -100 ≤ d.f1 ∧ d.f1 ≤ 100) (h : trn t c = trn t d) : c = d := by
 have a := mir_small t hc
 have b := mir_small t hd
 unfold trn at h
 injection h with h0 h1
 have e := rot_inj (t % 4) a.1 b.1 (Prod.ext h0 h1)
 rw [a.2, b.2] at e
 have e1 := congrArg Prod.fst e
 have e2 := congrArg Prod.snd e
 simp only at e1 e2
 refine cell_ext ?_ e2
 by_cases h4 : 4 ≤ t
 ·rw [if_pos h4, if_pos h4] at e1; omega
 ·rw [if_neg h4, if_neg h4] at e1; exact e1
def trnL (t : Nat) (l : List Cell) : List Cell := l.map (trn t)
theorem trnL_len (t : Nat) (l : List Cell) : (trnL t l).length = l.length := by simp [trnL]
theorem trnL_nodup (t : Nat) {l : List Cell} (h : Sh l = true) : (trnL t l).Nodup := by
 have hn := sh_nodup h
 unfold trnL
 rw [List.nodup_iff_pairwise_ne, List.pairwise_map]
 refine List.Pairwise.imp_of_mem ?_ hn
 intro a b ha hb hab e
 exact hab (trn_inj (Sh_co h a ha) (Sh_co h b hb) e)
def srtS (l : List Cell) : List Cell := l.foldl (fun acc c => ins c acc) []
theorem srtS_all : ∀ (l acc : List Cell), Srt acc → (acc ++ l).Nodup → Srt (l.foldl (fun acc c => ins c acc) acc) ∧ ∀ x, x ∈ l.foldl (fun acc c => ins c acc) acc ↔ x ∈ acc ∨ x ∈ l
 | [], acc, h, _ => ⟨h, fun x => by simp⟩
 | c :: r, acc, h, hn => by
  have hc : c ∉ acc := by
   intro hm
   rw [List.nodup_append] at hn
   exact hn.2.2 c hm c List.mem_cons_self rfl
  have hn2 : (ins c acc ++ r).Nodup := by
   have hp : (ins c acc ++ r).Perm (acc ++ c :: r) := by
    refine ((ins_perm c acc).append_right r).trans ?_
    rw [List.cons_append]
    exact List.perm_middle.symm
   exact hp.nodup_iff.2 hn
  obtain ⟨a, b⟩ := srtS_all r (ins c acc) (ins_srt c h hc) hn2
  refine ⟨a, fun x => ?_⟩
  rw [List.foldl_cons, b x, ins_mem, List.mem_cons]
  constructor
  ·rintro ((e | e) | e)
   ·exact Or.inr (Or.inl e)
   ·exact Or.inl e
   ·exact Or.inr (Or.inr e)
  ·rintro (e | e | e)
   ·exact Or.inl (Or.inr e)
   ·exact Or.inl (Or.inl e)
   ·exact Or.inr e
theorem srt_same {l : List Cell} (h : l.Nodup) : srtS l = Q.sortC l := by
 obtain ⟨a, b⟩ := srtS_all l [] List.Pairwise.nil (by simpa using h)
 have hp : (Q.sortC l).Perm l := by unfold Q.sortC; exact List.mergeSort_perm _ _
 have hs : Srt (Q.sortC l) := by
  have h1 := sortQ_srt l
  have h2 : (Q.sortC l).Nodup := hp.nodup_iff.2 h
  refine (h1.and h2).imp ?_
  rintro x y ⟨hx, hne⟩
  exact lessC_tot hx (fun e => hne e.symm)
 refine srt_ext a hs fun c => ?_
 have := b c
 rw [show List.foldl (fun acc c => ins c acc) [] l = srtS l from rfl] at this
 rw [this, sortQ_mem]
 simp
theorem srtS_evt (l : List Cell) (hl : l.length ≤ 500000) : Evt (fun k => spec_l02Sort.f k l) (srtS l) := by
 unfold spec_l02Sort.f
 have h := Evt.upS (g := fun k i acc => spec_l02Sort.l0 k l acc (i : Int)) (R := fun i acc => (l.drop i).foldl (fun acc c => ins c acc) acc) (P := fun i acc => acc.length = i) (n := l.length) ?_ ?_ 0 [] (Nat.zero_le _) rfl
 ·exact h
 ·intro out hp
  refine Evt.step (fun k => rfl) ?_
  simp only [spec_l02Sort.l0]
  refine Evt.ite_neg (by omega) ?_
  rw [List.drop_length]
  exact Evt.pure
 ·intro i acc hi hp ih
  refine Evt.step (fun k => rfl) ?_
  simp only [spec_l02Sort.l0, rd_getD]
  refine Evt.ite_pos (by omega) (Evt.ite_pos (by omega) ?_)
  refine (l02Insert_eq acc (l.getD i z66) (by omega)).bind ?_
  rw [drop_getD l i z66 hi, wrap_succ hi (by omega)]
  exact ih _ (by rw [ins_len, hp])
def nrm : List Cell → List Cell
 | [] => []
 | c :: r => (c :: r).map (impl_moved.g (wrap64 (-(loX c r))) (wrap64 (-(loY c r))))
theorem nrm_len : ∀ l : List Cell, (nrm l).length = l.length
 | [] => rfl
 | c :: r => by unfold nrm; rw [List.length_map]
theorem spec_nrm {l : List Cell} (h0 : 0 < l.length) (hl : l.length ≤ 100000) : Evt (fun k => spec_l02Normal.f k l) (nrm l) := by
 cases l with
 | nil => simp at h0
 | cons c r =>
  unfold spec_l02Normal.f
  exact (least_eq c r hl).bind ((move_eq (c :: r) _ _ hl).bind Evt.pure)
theorem impl_nrm {l : List Cell} (h0 : 0 < l.length) (hl : l.length ≤ 100000) : Evt (fun k => impl_normal.f k l) (nrm l) := by
 cases l with
 | nil => simp at h0
 | cons c r =>
  unfold impl_normal.f
  have hm : impl_moved.f (c :: r) (wrap64 (-(loX c r))) (wrap64 (-(loY c r))) = some ((c :: r).map (impl_moved.g (wrap64 (-(loX c r))) (wrap64 (-(loY c r))))) := by
   unfold impl_moved.f
   exact if_pos (by omega)
  exact (corner_eq c r hl).bind ((Evt.const hm).bind Evt.pure)
def frm (l : List Cell) (t : Nat) : List Cell := nrm (Q.sortC (trnL t l))
theorem frm_len (l : List Cell) (t : Nat) : (frm l t).length = l.length := by
 unfold frm
 rw [nrm_len, sortC_len, trnL_len]
theorem spec_form {l : List Cell} (h : Sh l = true) (t : Nat) : Evt (fun k => spec_l03Form.f k l (t : Int)) (frm l t) := by
 have h40 := Sh_len h
 unfold spec_l03Form.f
 have key := Evt.upS (g := fun k i acc => spec_l03Form.l0 k l (t : Int) acc (i : Int)) (R := fun i acc => nrm (srtS (acc ++ trnL t (l.drop i)))) (P := fun i acc => acc.length = i) (n := l.length) ?_ ?_ 0 [] (Nat.zero_le _) rfl
 ·have e : frm l t = nrm (srtS ([] ++ trnL t (l.drop 0))) := by
   unfold frm
   rw [List.nil_append, List.drop_zero, srt_same (trnL_nodup t h)]
  rw [e]
  exact key
 ·intro acc ha
  refine Evt.step (fun k => rfl) ?_
  simp only [spec_l03Form.l0]
  refine Evt.ite_neg (by omega) ?_
  have hlen : (srtS acc).length = acc.length := by
   have : (srtS acc).Perm acc := by
    unfold srtS
    have gen : ∀ (l a : List Cell), (l.foldl (fun acc c => ins c acc) a).Perm (a ++ l) := by
     intro l
     induction l with
     | nil => intro a; simp
     | cons c r ih =>
      intro a
      rw [List.foldl_cons]
      refine (ih (ins c a)).trans ?_
      refine ((ins_perm c a).append_right r).trans ?_
      rw [List.cons_append]
      exact List.perm_middle.symm
    simpa using gen acc []
   exact this.length_eq
  rw [List.drop_length, show trnL t [] = [] from rfl, List.append_nil]
  exact (srtS_evt acc (by omega)).bind ((spec_nrm (by omega) (by omega)).bind Evt.pure)
 ·intro i acc hi ha ih
  refine Evt.step (fun k => rfl) ?_
  simp only [spec_l03Form.l0, rd_getD]
  refine Evt.ite_pos (by omega) (Evt.ite_pos (by omega) ((spec_turn (l.getD i z66) t).bind (Evt.ite_pos (by omega) ?_)))
  rw [drop_getD l i z66 hi, wrap_succ hi (by omega)]
  have h2 := ih (acc ++ [trn t (l.getD i z66)]) (by simp [ha])
  rw [List.append_assoc] at h2
  exact h2
theorem impl_rows_evt (t : Nat) : ∀ l : List Cell, Evt (fun k => impl_form.rows k (t : Int) l) (trnL t l)
 | [] => Evt.pure
 | c :: r => by
  simp only [impl_form.rows]
  exact (impl_turn c t).bind ((impl_rows_evt t r).bind Evt.pure)
theorem impl_form_evt {l : List Cell} (h : Sh l = true) (t : Nat) : Evt (fun k => impl_form.f k l (t : Int)) (frm l t) := by
 have h40 := Sh_len h
 unfold impl_form.f
 refine Evt.ite_pos (by omega) ((impl_rows_evt t l).bind ?_)
 have hs : impl_sorted.f (trnL t l) = some (Q.sortC (trnL t l)) := by
  unfold impl_sorted.f
  exact if_pos (by rw [trnL_len]; omega)
 refine (Evt.const hs).bind ?_
 exact impl_nrm (by rw [sortC_len, trnL_len]; omega) (by rw [sortC_len, trnL_len]; omega)
theorem impl_forms_evt {l : List Cell} (h : Sh l = true) (m : Nat) (hm : m ≤ 100) : Evt (fun k => impl_forms.f k l (m : Int)) ((List.range m).map (frm l)) := by
 unfold impl_forms.f
 have key := Evt.upS (g := fun k i acc => impl_forms.l0 k l acc (m : Int) (i : Int)) (R := fun i acc => acc ++ ((List.range m).drop i).map (frm l)) (P := fun i acc => acc.length = i) (n := m) ?_ ?_ 0 [] (Nat.zero_le _) rfl
 ·simpa using key
 ·intro acc _
  refine Evt.step (fun k => rfl) ?_
  simp only [impl_forms.l0]
  refine Evt.ite_neg (by omega) ?_
  rw [List.drop_of_length_le (by simp), List.map_nil, List.append_nil]
  exact Evt.pure
 ·intro i acc hi ha ih
  refine Evt.step (fun k => rfl) ?_
  simp only [impl_forms.l0]
  refine Evt.ite_pos (by omega) ((impl_form_evt h i).bind (Evt.ite_pos (by omega) ?_))
  have hd : (List.range m).drop i = i :: (List.range m).drop (i + 1) := by
   rw [List.drop_eq_getElem_cons (show i < (List.range m).length by simpa using hi)]
   simp
  rw [hd, wrap_succ hi (by omega), List.map_cons]
  have h2 := ih (acc ++ [frm l i]) (by simp [ha])
  rw [List.append_assoc] at h2
  exact h2
theorem cmp_evt (a b : List Cell) (ha : a.length ≤ 1000000) : ∃ t, Evt (fun k => spec_CompareShapes.f k a b) t ∧ (t = 0 ↔ a = b) := by
 unfold spec_CompareShapes.f
 by_cases hl : a.length = b.length
 ·have key : ∀ d i, i + d = a.length → ∃ t, Evt (fun k => spec_CompareShapes.l0 k a b (i : Int)) t ∧ (t = 0 ↔ a.drop i = b.drop i) := by
   intro d
   induction d with
   | zero =>
    intro i h
    refine ⟨0, Evt.step (fun k => rfl) ?_, ?_⟩
    ·simp only [spec_CompareShapes.l0]
     exact Evt.ite_neg (by omega) Evt.pure
    ·rw [List.drop_of_length_le (by omega), List.drop_of_length_le (by omega)]
     simp
   | succ d ih =>
    intro i h
    have hi : i < a.length := by omega
    obtain ⟨t, t1, t2⟩ := ih (i + 1) (by omega)
    have ea := drop_getD a i z66 hi
    have eb := drop_getD b i z66 (by omega)
    have l1 := l02Less_eq (a.getD i z66) (b.getD i z66)
    have l2 := l02Less_eq (b.getD i z66) (a.getD i z66)
    rw [ea, eb]
    have hstep : ∀ {r : Int}, Evt (fun k => if lessC (a.getD i z66) (b.getD i z66) = true then some (-1) else (if lessC (b.getD i z66) (a.getD i z66) = true then some 1 else spec_CompareShapes.l0 k a b ((i + 1 : Nat) : Int))) r → Evt (fun k => spec_CompareShapes.l0 k a b (i : Int)) r := by
     intro r hr
     refine Evt.step (fun k => rfl) ?_
     simp only [spec_CompareShapes.l0, rd_getD, l1, l2, Option.bind_some]
     rw [wrap_succ hi (by omega)]
     exact Evt.ite_pos (by omega) (Evt.ite_pos (by omega) (Evt.ite_pos (by omega) hr))
    generalize a.getD i z66 = x at hstep ⊢
    generalize b.getD i z66 = y at hstep ⊢
    cases c1 : lessC x y
    ·cases c2 : lessC y x
     ·have exy : x = y := by
       apply Classical.byContradiction
       intro hne
       have := lessC_tot (a := x) (b := y) (by rw [c1]; simp) hne
       rw [c2] at this
       cases this
      refine ⟨t, hstep (Evt.ite_neg (by rw [c1]; simp) (Evt.ite_neg (by rw [c2]; simp) t1)), ?_⟩
      rw [t2, exy]
      simp
     ·refine ⟨1, hstep (Evt.ite_neg (by rw [c1]; simp) (Evt.ite_pos (by rw [c2]) Evt.pure)), ?_⟩
      constructor
      ·intro h; omega
      ·intro h
       injection h with h1 _
       rw [h1] at c2
       exact absurd c2 (lessC_irr y)
    ·refine ⟨-1, hstep (Evt.ite_pos (by rw [c1]) Evt.pure), ?_⟩
     constructor
     ·intro h; omega
     ·intro h
      injection h with h1 _
      rw [h1] at c1
      exact absurd c1 (lessC_irr y)
  obtain ⟨t, t1, t2⟩ := key a.length 0 (by omega)
  exact ⟨t, Evt.ite_pos (by omega) t1, by simpa using t2⟩
 ·have hne : a ≠ b := fun e => hl (by rw [e])
  by_cases h2 : a.length < b.length
  ·exact ⟨-1, Evt.ite_neg (by omega) (Evt.ite_pos (by omega) Evt.pure), by simp [hne]⟩
  ·exact ⟨1, Evt.ite_neg (by omega) (Evt.ite_neg (by omega) Evt.pure), by simp [hne]⟩
theorem rdL3 (l : List (List Cell)) (i : Nat) : rd_L3 l (i : Int) = l.getD i [] := by simp [rd_L3]
theorem add_evt (L : List (List Cell)) (x : List Cell) (hL : L.length ≤ 1000) (hx : x.length ≤ 1000000) : ∃ R, Evt (fun k => spec_l03Add.f k L x) R ∧ R.length ≤ L.length + 1 ∧ ∀ a, a ∈ R ↔ a ∈ L ∨ a = x := by
 unfold spec_l03Add.f
 have key : ∀ d i, i + d = L.length → ∀ (out : List (List Cell)) (done : Bool), (out.length = if done = true then i + 1 else i) → (∀ a, a ∈ out ↔ a ∈ L.take i ∨ (done = true ∧ a = x)) → ∃ R, Evt (fun k => spec_l03Add.l0 k L x out done (i : Int)) R ∧ R.length ≤ L.length + 1 ∧ ∀ a, a ∈ R ↔ a ∈ L ∨ a = x := by
  intro d
  induction d with
  | zero =>
   intro i h out done ho hm
   have e : L.take i = L := List.take_of_length_le (by omega)
   rw [e] at hm
   cases done
   ·rw [if_neg (by simp)] at ho
    refine ⟨out ++ [x], Evt.step (fun k => rfl) ?_, by rw [List.length_append, List.length_singleton]; omega, fun a => ?_⟩
    ·simp only [spec_l03Add.l0]
     exact Evt.ite_neg (by omega) (Evt.ite_neg (by simp) (Evt.ite_pos (by omega) Evt.pure))
    ·rw [List.mem_append, hm a, List.mem_singleton]
     simp
   ·rw [if_pos rfl] at ho
    refine ⟨out, Evt.step (fun k => rfl) ?_, by omega, fun a => ?_⟩
    ·simp only [spec_l03Add.l0]
     exact Evt.ite_neg (by omega) (Evt.ite_pos (by simp) Evt.pure)
    ·rw [hm a]
     simp
  | succ d ih =>
   intro i h out done ho hm
   have hi : i < L.length := by omega
   have hol : out.length ≤ 1001 := by cases done <;> simp at ho <;> omega
   obtain ⟨t, t1, t2⟩ := cmp_evt x (L.getD i []) hx
   have hgd : L.getD i [] = L[i] := by simp [List.getD_eq_getElem?_getD, List.getElem?_eq_getElem hi]
   have htk : L.take (i + 1) = L.take i ++ [L.getD i []] := by
    rw [List.take_succ_eq_append_getElem hi, hgd]
   have hin : L.getD i [] ∈ L := by rw [hgd]; exact List.getElem_mem hi
   generalize hq : L.getD i [] = q at t1 t2 htk hin
   by_cases h0 : t = 0
   ·refine ⟨L, Evt.step (fun k => rfl) ?_, by omega, fun a => ?_⟩
    ·simp only [spec_l03Add.l0, rdL3, hq]
     exact Evt.ite_pos (by omega) (Evt.ite_pos (by omega) (t1.bind (Evt.ite_pos h0 Evt.pure)))
    ·constructor
     ·exact fun h => Or.inl h
     ·rintro (h | h)
      ·exact h
      ·rw [h, t2.1 h0]; exact hin
   ·by_cases hneg : t < 0
    ·cases done
     ·rw [if_neg (by simp)] at ho
      obtain ⟨R, r1, r2, r3⟩ := ih (i + 1) (by omega) (out ++ [x] ++ [q]) true (by simp; omega) (fun a => by
       rw [List.mem_append, List.mem_append, hm a, htk, List.mem_append, List.mem_singleton, List.mem_singleton]
       constructor
       ·rintro (((e | e) | e) | e)
        ·exact Or.inl (Or.inl e)
        ·exact absurd e.1 (by simp)
        ·exact Or.inr ⟨rfl, e⟩
        ·exact Or.inl (Or.inr e)
       ·rintro ((e | e) | e)
        ·exact Or.inl (Or.inl (Or.inl e))
        ·exact Or.inr e
        ·exact Or.inl (Or.inr e.2))
      refine ⟨R, Evt.step (fun k => rfl) ?_, r2, r3⟩
      simp only [spec_l03Add.l0, rdL3, hq, Option.bind_some]
      rw [wrap_succ hi (by omega)]
      exact Evt.ite_pos (by omega) (Evt.ite_pos (by omega) (t1.bind (Evt.ite_neg h0 (Evt.ite_pos hneg (Evt.ite_neg (by simp) (Evt.ite_pos (by omega) (Evt.ite_pos (by rw [List.length_append, List.length_singleton]; omega) r1)))))))
     ·rw [if_pos rfl] at ho
      obtain ⟨R, r1, r2, r3⟩ := ih (i + 1) (by omega) (out ++ [q]) true (by simp; omega) (fun a => by
       rw [List.mem_append, hm a, htk, List.mem_append, List.mem_singleton]
       constructor
       ·rintro ((e | e) | e)
        ·exact Or.inl (Or.inl e)
        ·exact Or.inr e
        ·exact Or.inl (Or.inr e)
       ·rintro ((e | e) | e)
        ·exact Or.inl (Or.inl e)
        ·exact Or.inr e
        ·exact Or.inl (Or.inr e))
      refine ⟨R, Evt.step (fun k => rfl) ?_, r2, r3⟩
      simp only [spec_l03Add.l0, rdL3, hq]
      rw [wrap_succ hi (by omega)]
      exact Evt.ite_pos (by omega) (Evt.ite_pos (by omega) (t1.bind (Evt.ite_neg h0 (Evt.ite_pos hneg (Evt.ite_pos (by simp) (Evt.ite_pos (by omega) r1))))))
    ·obtain ⟨R, r1, r2, r3⟩ := ih (i + 1) (by omega) (out ++ [q]) done (by cases done <;> simp at ho ⊢ <;> omega) (fun a => by
      rw [List.mem_append, hm a, htk, List.mem_append, List.mem_singleton]
      constructor
      ·rintro ((e | e) | e)
       ·exact Or.inl (Or.inl e)
       ·exact Or.inr e
       ·exact Or.inl (Or.inr e)
      ·rintro ((e | e) | e)
       ·exact Or.inl (Or.inl e)
       ·exact Or.inr e
       ·exact Or.inl (Or.inr e))
     refine ⟨R, Evt.step (fun k => rfl) ?_, r2, r3⟩
     simp only [spec_l03Add.l0, rdL3, hq]
     rw [wrap_succ hi (by omega)]
     exact Evt.ite_pos (by omega) (Evt.ite_pos (by omega) (t1.bind (Evt.ite_neg h0 (Evt.ite_neg hneg (Evt.ite_pos (by omega) r1)))))
 exact key L.length 0 (by omega) [] false rfl (fun a => by simp)
theorem spec_forms_evt {l : List Cell} (h : Sh l = true) (m : Nat) (hm : m ≤ 100) : ∃ R, Evt (fun k => spec_l03Forms.f k l (m : Int)) R ∧ R.length ≤ m ∧ ∀ a, a ∈ R ↔ a ∈ (List.range m).map (frm l) := by
 have h40 := Sh_len h
 unfold spec_l03Forms.f
 have key : ∀ d i, i + d = m → ∀ out : List (List Cell), out.length ≤ i → (∀ a, a ∈ out ↔ a ∈ (List.range i).map (frm l)) → ∃ R, Evt (fun k => spec_l03Forms.l0 k l (m : Int) out (i : Int)) R ∧ R.length ≤ m ∧ ∀ a, a ∈ R ↔ a ∈ (List.range m).map (frm l) := by
  intro d
  induction d with
  | zero =>
   intro i hi out ho hmem
   obtain rfl : i = m := by omega
   refine ⟨out, Evt.step (fun k => rfl) ?_, ho, hmem⟩
   simp only [spec_l03Forms.l0]
   exact Evt.ite_neg (by omega) Evt.pure
  | succ d ih =>
   intro i hi out ho hmem
   obtain ⟨A, a1, a2, a3⟩ := add_evt out (frm l i) (by omega) (by rw [frm_len]; omega)
   obtain ⟨R, r1, r2, r3⟩ := ih (i + 1) (by omega) A (by omega) (fun a => by
    rw [a3 a, hmem a, List.range_succ, List.map_append, List.mem_append, List.map_cons, List.map_nil, List.mem_singleton])
   refine ⟨R, Evt.step (fun k => rfl) ?_, r2, r3⟩
   simp only [spec_l03Forms.l0]
   rw [wrap_succ (n := m) (by omega) (by omega)]
   exact Evt.ite_pos (by omega) ((spec_form h i).bind (a1.bind r1))
 exact key m 0 (by omega) [] (Nat.le_refl _) (fun a => by simp)
end Go.Proofs.YtbphiipcnjelbaaGreat.Pure
end
section
namespace Go.Proofs.YtbphiipcnjelbaaGreat.Pure
open Go.RowKit Go.Proofs.YtbphiipcnjelbaaGreat Go.Proofs.YtbphiipcnjelbaaGreat.Q Go.Proofs.YtbphiipcnjelbaaGreatW.PrintWords
set_option linter.unusedVariables false
set_option linter.unusedSimpArgs false
theorem dfold_one : ∀ (l a : List Int), (l.foldl dstep a).length = a.length + l.length → l.foldl dstep a = a ++ l ∧ (a.Nodup → (a ++ l).Nodup)
 | [], a, _ => ⟨by simp, fun h => by simpa using h⟩
 | x :: r, a, h => by
  rw [List.foldl_cons] at h ⊢
  have h2 := dfold_len r (dstep a x)
  have h3 := dstep_len a x
  rw [List.length_cons] at h
  by_cases hx : x ∈ a
  ·rw [show dstep a x = a from if_pos hx] at h h2
   omega
  ·rw [show dstep a x = a ++ [x] from if_neg hx] at h ⊢
   obtain ⟨e, f⟩ := dfold_one r (a ++ [x]) (by rw [h, List.length_append, List.length_singleton]; omega)
   rw [e, List.append_assoc]
   refine ⟨rfl, fun hn => ?_⟩
   have := f (List.nodup_append.2 ⟨hn, by simp, fun y hy z hz e => hx (by rw [List.mem_singleton.1 hz] at e; rw [← e]; exact hy)⟩)
   rwa [List.append_assoc] at this
theorem dfold_nodup : ∀ (l a : List Int), (a ++ l).Nodup → l.foldl dstep a = a ++ l
 | [], a, _ => by simp
 | x :: r, a, h => by
  have hx : x ∉ a := by
   intro hm
   rw [List.nodup_append] at h
   exact h.2.2 x hm x List.mem_cons_self rfl
  rw [List.foldl_cons, show dstep a x = a ++ [x] from if_neg hx, dfold_nodup r (a ++ [x]) (by rwa [List.append_assoc]), List.append_assoc]
  rfl
theorem dd_iff (l : List Int) : (dd l).length = l.length ↔ l.Nodup := by
 unfold dd
 constructor
 ·intro h
  have := (dfold_one l [] (by simpa using h)).2 List.nodup_nil
  simpa using this
 ·intro h
  rw [dfold_nodup l [] (by simpa using h)]
  rfl
theorem dd_self {l : List Int} (h : l.Nodup) : dd l = l := dfold_nodup l [] (by simpa using h)
theorem insI_perm (x : Int) : ∀ l : List Int, (insI x l).Perm (x :: l)
 | [] => List.Perm.refl _
 | y :: r => by
  unfold insI
  by_cases h : y < x
  ·rw [if_pos h]
   exact ((insI_perm x r).cons y).trans (List.Perm.swap x y r)
  ·rw [if_neg h]
theorem insI_srt (x : Int) : ∀ {l : List Int}, l.Pairwise (· ≤ ·) → (insI x l).Pairwise (· ≤ ·)
 | [], _ => by unfold insI; simp
 | y :: r, h => by
  obtain ⟨p, q⟩ := List.pairwise_cons.1 h
  unfold insI
  by_cases hy : y < x
  ·rw [if_pos hy]
   refine List.pairwise_cons.2 ⟨fun z hz => ?_, insI_srt x q⟩
   rcases List.mem_cons.1 ((insI_perm x r).mem_iff.1 hz) with e | e
   ·omega
   ·exact p z e
  ·rw [if_neg hy]
   refine List.pairwise_cons.2 ⟨fun z hz => ?_, h⟩
   rcases List.mem_cons.1 hz with e | e
   ·omega
   ·have := p z e; omega
theorem sfold_all : ∀ (l a : List Int), a.Pairwise (· ≤ ·) → (l.foldl (fun a x => insI x a) a).Pairwise (· ≤ ·) ∧ (l.foldl (fun a x => insI x a) a).Perm (a ++ l)
 | [], a, h => ⟨h, by simp⟩
 | x :: r, a, h => by
  obtain ⟨p, q⟩ := sfold_all r (insI x a) (insI_srt x h)
  refine ⟨p, q.trans ?_⟩
  refine ((insI_perm x a).append_right r).trans ?_
  rw [List.cons_append]
  exact List.perm_middle.symm
theorem sortI_srt (l : List Int) : (sortI l).Pairwise (· ≤ ·) := by
 have := List.pairwise_mergeSort (le := fun (x y : Int) => decide (x ≤ y)) (fun a b c h1 h2 => by simp at *; omega) (fun a b => by simp; omega) l
 exact this.imp (fun h => by simpa using h)
theorem sortI_perm (l : List Int) : (sortI l).Perm l := List.mergeSort_perm _ _
theorem srtI_sortI (l : List Int) : srtI l = sortI l := by
 obtain ⟨p, q⟩ := sfold_all l [] List.Pairwise.nil
 refine List.Perm.eq_of_pairwise (le := fun x y : Int => x ≤ y) (fun a b _ _ h1 h2 => by omega) p (sortI_srt l) ?_
 rw [List.nil_append] at q
 exact q.trans (sortI_perm l).symm
theorem okSp_iff (m : List Int) : okSp m ↔ m.Nodup := by
 have hs := sortI_srt m
 have hp := sortI_perm m
 have hl := sortI_len m
 unfold okSp
 constructor
 ·intro h
  refine hp.nodup_iff.1 ?_
  generalize sortI m = z at *
  have hk : ∀ j, j < z.length → Lib.keeps z.toArray j = true := by
   have h1 : ((List.range z.length).filter (Lib.keeps z.toArray)).length = (List.range z.length).length := by
    have h2 := h
    unfold Lib.compact Lib.compactUpTo at h2
    rw [List.length_map] at h2
    rw [List.length_range]
    omega
   intro j hj
   exact (List.length_filter_eq_length_iff.1 h1) j (List.mem_range.2 hj)
  rw [List.Nodup, List.pairwise_iff_getElem]
  intro i j hi hj hij e
  rw [List.pairwise_iff_getElem] at hs
  have h3 := hk j hj
  unfold Lib.keeps at h3
  simp only [decide_eq_true_eq] at h3
  rcases h3 with h3 | h3
  ·omega
  ·have e1 : z.toArray[j]! = z[j] := by simp [getElem!_pos, hj]
   have e2 : z.toArray[j - 1]! = z[j - 1]'(by omega) := by
    have : j - 1 < z.length := by omega
    simp [getElem!_pos, this]
   rw [e1, e2] at h3
   have h4 := hs (j - 1) j (by omega) hj (by omega)
   by_cases hij2 : i = j - 1
   ·subst hij2
    exact h3 e.symm
   ·have h5 := hs i (j - 1) hi (by omega) (by omega)
    omega
 ·intro h
  have hn := hp.nodup_iff.2 h
  rw [Lib.compact_all, hl]
  intro j hj
  generalize sortI m = z at *
  by_cases h0 : j = 0
  ·unfold Lib.keeps
   simp [h0]
  ·refine Lib.keeps_pos ?_
   have e1 : z.toArray[j]! = z[j] := by simp [getElem!_pos, hj]
   have e2 : z.toArray[j - 1]! = z[j - 1]'(by omega) := by
    have : j - 1 < z.length := by omega
    simp [getElem!_pos, this]
   rw [e1, e2]
   intro e
   rw [List.Nodup, List.pairwise_iff_getElem] at hn
   exact hn (j - 1) j (by omega) hj (by omega) e.symm
def StrL (l : List (List Int)) : Prop := l.Pairwise fun x y => cmpL x y < 0
theorem addL_memI (x : List Int) : ∀ (l : List (List Int)) (a : List Int), a ∈ addL x l ↔ a = x ∨ a ∈ l
 | [], a => by unfold addL; simp
 | y :: r, a => by
  unfold addL
  by_cases h : cmpL y x < 0
  ·rw [if_pos h, List.mem_cons, addL_memI x r a, List.mem_cons]
   constructor
   ·rintro (e | e | e)
    ·exact Or.inr (Or.inl e)
    ·exact Or.inl e
    ·exact Or.inr (Or.inr e)
   ·rintro (e | e | e)
    ·exact Or.inr (Or.inl e)
    ·exact Or.inl e
    ·exact Or.inr (Or.inr e)
  ·rw [if_neg h]
   by_cases h0 : cmpL y x = 0
   ·rw [if_pos h0]
    have := cmpL_zero y x h0
    subst this
    simp
   ·rw [if_neg h0, List.mem_cons]
theorem addL_str (x : List Int) : ∀ {l : List (List Int)}, StrL l → StrL (addL x l)
 | [], _ => by unfold addL StrL; simp
 | y :: r, h => by
  obtain ⟨p, q⟩ := List.pairwise_cons.1 h
  unfold addL
  by_cases hy : cmpL y x < 0
  ·rw [if_pos hy]
   refine List.pairwise_cons.2 ⟨fun z hz => ?_, addL_str x q⟩
   rcases (addL_memI x r z).1 hz with e | e
   ·rw [e]; exact hy
   ·exact p z e
  ·rw [if_neg hy]
   by_cases h0 : cmpL y x = 0
   ·rw [if_pos h0]; exact h
   ·rw [if_neg h0]
    have hxy : cmpL x y < 0 := by have := cmpL_anti y x; omega
    refine List.pairwise_cons.2 ⟨fun z hz => ?_, h⟩
    rcases List.mem_cons.1 hz with e | e
    ·rw [e]; exact hxy
    ·exact (cmpL_trans x y z (by omega) (by have := p z e; omega)).2 (Or.inl hxy)
theorem spotS1_all (W H : Nat) (f : List S66) : ∀ (l : List Nat) (out : List (List Int)), StrL out → StrL (l.foldl (spotS1 W H f) out) ∧ ∀ a, a ∈ l.foldl (spotS1 W H f) out ↔ a ∈ out ∨ ∃ n ∈ l, okSp (f.map (torAt W H n)) ∧ a = sortI (f.map (torAt W H n))
 | [], out, h => ⟨h, fun a => by simp⟩
 | n :: r, out, h => by
  have hstep : StrL (spotS1 W H f out n) ∧ ∀ a, a ∈ spotS1 W H f out n ↔ a ∈ out ∨ (okSp (f.map (torAt W H n)) ∧ a = sortI (f.map (torAt W H n))) := by
   unfold spotS1
   have e : (dd (f.map (torAt W H n))).length = f.length ↔ okSp (f.map (torAt W H n)) := by
    rw [okSp_iff, ← dd_iff, List.length_map]
   by_cases hc : okSp (f.map (torAt W H n))
   ·rw [if_pos (e.2 hc), dd_self ((okSp_iff _).1 hc), srtI_sortI]
    refine ⟨addL_str _ h, fun a => ?_⟩
    rw [addL_memI]
    exact ⟨fun x => x.elim (fun x => Or.inr ⟨hc, x⟩) Or.inl, fun x => x.elim Or.inr (fun x => Or.inl x.2)⟩
   ·rw [if_neg (fun x => hc (e.1 x))]
    exact ⟨h, fun a => ⟨Or.inl, fun x => x.elim id (fun x => absurd x.1 hc)⟩⟩
  rw [List.foldl_cons]
  obtain ⟨p, q⟩ := spotS1_all W H f r _ hstep.1
  refine ⟨p, fun a => ?_⟩
  rw [q a, hstep.2 a]
  constructor
  ·rintro ((e | e) | ⟨m, hm, e⟩)
   ·exact Or.inl e
   ·exact Or.inr ⟨n, List.mem_cons_self, e⟩
   ·exact Or.inr ⟨m, List.mem_cons_of_mem _ hm, e⟩
  ·rintro (e | ⟨m, hm, e⟩)
   ·exact Or.inl (Or.inl e)
   ·rcases List.mem_cons.1 hm with rfl | hm
    ·exact Or.inl (Or.inr e)
    ·exact Or.inr ⟨m, hm, e⟩
theorem spotsS_all (W H : Nat) : ∀ (fs : List (List S66)) (out : List (List Int)), StrL out → StrL (fs.foldl (spotSF W H) out) ∧ ∀ a, a ∈ fs.foldl (spotSF W H) out ↔ a ∈ out ∨ ∃ f ∈ fs, ∃ n, n < W * H ∧ okSp (f.map (torAt W H n)) ∧ a = sortI (f.map (torAt W H n))
 | [], out, h => ⟨h, fun a => by simp⟩
 | f :: r, out, h => by
  obtain ⟨p1, q1⟩ := spotS1_all W H f (List.range (W * H)) out h
  rw [List.foldl_cons]
  obtain ⟨p, q⟩ := spotsS_all W H r (spotSF W H out f) p1
  refine ⟨p, fun a => ?_⟩
  rw [q a, show spotSF W H out f = (List.range (W * H)).foldl (spotS1 W H f) out from rfl, q1 a]
  constructor
  ·rintro ((e | ⟨n, hn, e⟩) | ⟨g, hg, e⟩)
   ·exact Or.inl e
   ·exact Or.inr ⟨f, List.mem_cons_self, n, List.mem_range.1 hn, e⟩
   ·exact Or.inr ⟨g, List.mem_cons_of_mem _ hg, e⟩
  ·rintro (e | ⟨g, hg, n, hn, e⟩)
   ·exact Or.inl (Or.inl e)
   ·rcases List.mem_cons.1 hg with rfl | hg
    ·exact Or.inl (Or.inr ⟨n, List.mem_range.2 hn, e⟩)
    ·exact Or.inr ⟨g, hg, n, hn, e⟩
theorem spotsS_is (W H : Nat) (fs : List (List S66)) : (spotsS W H fs).Pairwise (fun x y => cmpL x y < 0) ∧ ∀ a, a ∈ spotsS W H fs ↔ ∃ f ∈ fs, ∃ n, n < W * H ∧ okSp (f.map (torAt W H n)) ∧ a = sortI (f.map (torAt W H n)) := by
 obtain ⟨p, q⟩ := spotsS_all W H fs [] List.Pairwise.nil
 refine ⟨p, fun a => (q a).trans ⟨fun x => x.elim (fun x => by cases x) id, Or.inr⟩⟩
theorem spotS1_len (W H : Nat) (f : List S66) : ∀ (l : List Nat) (out : List (List Int)), (l.foldl (spotS1 W H f) out).length ≤ out.length + l.length
 | [], out => by simp
 | n :: r, out => by
  have h := spotS1_len W H f r (spotS1 W H f out n)
  have h2 : (spotS1 W H f out n).length ≤ out.length + 1 := by
   unfold spotS1
   split
   ·exact addL_len _ _
   ·omega
  rw [List.foldl_cons, List.length_cons]
  omega
theorem spotsS_len (W H : Nat) (fs : List (List S66)) : (spotsS W H fs).length ≤ fs.length * (W * H) := by
 unfold spotsS
 have gen : ∀ (fs : List (List S66)) (out : List (List Int)), (fs.foldl (spotSF W H) out).length ≤ out.length + fs.length * (W * H) := by
  intro fs
  induction fs with
  | nil => intro out; simp
  | cons f r ih =>
   intro out
   have h1 := ih (spotSF W H out f)
   have h2 := spotS1_len W H f (List.range (W * H)) out
   rw [List.length_range] at h2
   rw [List.foldl_cons, List.length_cons, Nat.succ_mul]
   rw [show (List.range (W * H)).foldl (spotS1 W H f) out = spotSF W H out f from rfl] at h2
   omega
 simpa using gen fs []
end Go.Proofs.YtbphiipcnjelbaaGreat.Pure
end
section
namespace Go.Proofs.YtbphiipcnjelbaaGreat.Pure
open Go.RowKit Go.Proofs.YtbphiipcnjelbaaGreat Go.Proofs.YtbphiipcnjelbaaGreat.Q Go.Proofs.YtbphiipcnjelbaaGreatW.PrintWords
set_option linter.unusedVariables false
set_option linter.unusedSimpArgs false
theorem rotN_small : ∀ (n : Nat) {p : Int × Int}, small1 p → small1 (rotN n p)
 | 0, _, h => h
 | n + 1, _, h => rotN_small n (rot_small h).1
theorem trnL_sml (t : Nat) {l : List Cell} (h : Sml l) : Sml (trnL t l) := by
 intro c hc
 obtain ⟨d, hd, rfl⟩ := List.mem_map.1 hc
 exact rotN_small (t % 4) (mir_small t (h d hd)).1
theorem nrm_in {l : List Cell} (h : Sml l) : ∀ c ∈ nrm l, (-1000000 ≤ c.f0 ∧ c.f0 ≤ 1000000) ∧ -1000000 ≤ c.f1 ∧ c.f1 ≤ 1000000 := by
 cases l with
 | nil => intro c hc; cases hc
 | cons a r =>
  intro c hc
  unfold nrm at hc
  obtain ⟨d, hd, rfl⟩ := List.mem_map.1 hc
  have hb := (box_in h).1
  have ha := h a List.mem_cons_self
  have hd2 := h d hd
  unfold impl_moved.g
  simp only
  have e1 : wrap64 (-loX a r) = -loX a r := w64 (by omega) (by omega)
  have e2 : wrap64 (-loY a r) = -loY a r := w64 (by omega) (by omega)
  rw [e1, e2, w64 (by omega) (by omega), w64 (by omega) (by omega)]
  omega
theorem frm_ok {l : List Cell} (h : Sh l = true) (t : Nat) : (frm l t).length ≤ 1000 ∧ ∀ c ∈ frm l t, (-1000000 ≤ c.f0 ∧ c.f0 ≤ 1000000) ∧ -1000000 ≤ c.f1 ∧ c.f1 ≤ 1000000 := by
 have h40 := Sh_len h
 refine ⟨by rw [frm_len]; omega, ?_⟩
 unfold frm
 refine nrm_in fun c hc => ?_
 exact trnL_sml t (fun d hd => Sh_co h d hd) c ((sortQ_mem _ c).1 hc)
theorem frms_ok {l : List Cell} (h : Sh l = true) {m : Nat} (hm : m ≤ 100) {R : List (List Cell)} (hl : R.length ≤ m) (hR : ∀ a ∈ R, a ∈ (List.range m).map (frm l)) : frmsOk R := by
 refine ⟨by omega, fun f hf => ?_⟩
 obtain ⟨t, _, rfl⟩ := List.mem_map.1 (hR f hf)
 exact frm_ok h t
theorem torus_both (l : List Cell) (n : Int) (m : Bool) (W H : Int) (hl : l.length ≤ 1048576) : ∃ c, Evt (fun k => spec_l25Code.f k l n m W H) c ∧ Evt (fun k => impl_torusCode.f k l n m W H) c ∧ (c = 0 → Sh l = true ∧ (1 ≤ W ∧ W ≤ 6) ∧ 1 ≤ H ∧ H ≤ 6) := by
 unfold spec_l25Code.f impl_torusCode.f impl_isTorus.f
 obtain ⟨b, b1, b2, b3⟩ := piece_both l n m hl
 cases b
 ·exact ⟨1, b1.bind (Evt.ite_neg (by simp) Evt.pure), b2.bind (Evt.ite_neg (by simp) Evt.pure), by simp⟩
 ·have w1 := in_eq W 1 6
  have w2 := within_eq W 1 6
  have h1 := in_eq H 1 6
  have h2 := within_eq H 1 6
  by_cases hW : 1 ≤ W ∧ W ≤ 6
  ·rw [decide_eq_true hW] at w1 w2
   by_cases hH : 1 ≤ H ∧ H ≤ 6
   ·rw [decide_eq_true hH] at h1 h2
    exact ⟨0, b1.bind (Evt.ite_pos rfl ((Evt.const w1).bind (Evt.ite_pos rfl ((Evt.const h1).bind (Evt.ite_pos rfl Evt.pure))))), b2.bind (Evt.ite_pos rfl (Evt.bind (a := true) ((Evt.const w2).bind (Evt.ite_pos rfl ((Evt.const h2).bind Evt.pure))) (Evt.ite_pos rfl Evt.pure))), fun _ => ⟨b3 rfl, hW, hH⟩⟩
   ·rw [decide_eq_false hH] at h1 h2
    exact ⟨2, b1.bind (Evt.ite_pos rfl ((Evt.const w1).bind (Evt.ite_pos rfl ((Evt.const h1).bind (Evt.ite_neg (by simp) Evt.pure))))), b2.bind (Evt.ite_pos rfl (Evt.bind (a := false) ((Evt.const w2).bind (Evt.ite_pos rfl ((Evt.const h2).bind Evt.pure))) (Evt.ite_neg (by simp) Evt.pure))), by simp⟩
  ·rw [decide_eq_false hW] at w1 w2
   exact ⟨2, b1.bind (Evt.ite_pos rfl ((Evt.const w1).bind (Evt.ite_neg (by simp) Evt.pure))), b2.bind (Evt.ite_pos rfl (Evt.bind (a := false) ((Evt.const w2).bind (Evt.ite_neg (by simp) Evt.pure)) (Evt.ite_neg (by simp) Evt.pure))), by simp⟩
theorem forms_both {l : List Cell} (h : Sh l = true) (n : Int) (m : Bool) : ∃ R F : List (List Cell), Evt (fun k => spec_l11Forms.f k l n m) R ∧ Evt (fun k => impl_forms.f k l (if m = true then 8 else 4)) F ∧ frmsOk R ∧ frmsOk F ∧ 0 < F.length ∧ R.length ≤ 8 ∧ (∀ a, a ∈ R ↔ a ∈ F) ∧ ∀ a ∈ R, a.length = l.length := by
 obtain ⟨T, hT, hT2, hT0, hTf⟩ : ∃ T : Nat, (if m = true then (8 : Int) else 4) = (T : Int) ∧ T ≤ 8 ∧ 0 < T ∧ ∀ (R : List (List Cell)), Evt (fun k => spec_l03Forms.f k l (T : Int)) R → Evt (fun k => spec_l11Forms.f k l n m) R := by
  cases m
  ·refine ⟨4, rfl, by omega, by omega, fun R hR => ?_⟩
   unfold spec_l11Forms.f
   exact Evt.ite_neg (by simp) (hR.bind Evt.pure)
  ·refine ⟨8, rfl, by omega, by omega, fun R hR => ?_⟩
   unfold spec_l11Forms.f
   exact Evt.ite_pos rfl (hR.bind Evt.pure)
 obtain ⟨R, r1, r2, r3⟩ := spec_forms_evt h T (by omega)
 have i1 := impl_forms_evt h T (by omega)
 rw [hT]
 refine ⟨R, _, hTf R r1, i1, frms_ok h (by omega) r2 (fun a ha => (r3 a).1 ha), frms_ok h (m := T) (by omega) (by simp) (fun a ha => ha), by simp; omega, by omega, r3, fun a ha => ?_⟩
 obtain ⟨t, _, rfl⟩ := List.mem_map.1 ((r3 a).1 ha)
 exact frm_len l t
theorem spots_both (l : List Cell) (n : Int) (m : Bool) (W H : Int) (hl : l.length ≤ 1048576) : ∃ (K : Nat) (c : Int) (r : List (List Int)), (r.length ≤ 1000 ∧ ∀ q ∈ r, q.length ≤ 1000) ∧ ∀ k, K ≤ k → SpotsR k l n m W H c r ∧ SpotsI k l n m W H c r := by
 obtain ⟨c, ⟨k1, c1⟩, ⟨k2, c2⟩, c3⟩ := torus_both l n m W H hl
 by_cases h0 : c = 0
 ·obtain ⟨hs, hW, hH⟩ := c3 h0
  have h40 := Sh_len hs
  obtain ⟨R, F, ⟨k3, f1⟩, ⟨k4, f2⟩, f3, f4, f5, f6, f7, f8⟩ := forms_both hs n m
  obtain ⟨W, rfl⟩ : ∃ W' : Nat, W = (W' : Int) := ⟨W.toNat, by omega⟩
  obtain ⟨H, rfl⟩ : ∃ H' : Nat, H = (H' : Int) := ⟨H.toNat, by omega⟩
  obtain ⟨s1, s2⟩ := spotsS_is W H R
  have hlen := spotsS_len W H R
  have hWH : W * H ≤ 36 := Nat.le_trans (Nat.mul_le_mul (show W ≤ 6 by omega) (show H ≤ 6 by omega)) (by omega)
  have hRWH : R.length * (W * H) ≤ 288 := Nat.le_trans (Nat.mul_le_mul f6 hWH) (by omega)
  refine ⟨k1 + k2 + k3 + k4, c, spotsS W H R, ⟨by omega, fun q hq => ?_⟩, fun k hk => ⟨⟨c1 k (by omega), Or.inr ⟨h0, W, H, R, rfl, rfl, f1 k (by omega), f3, by omega, by omega, rfl⟩⟩, c2 k (by omega), Or.inr ⟨h0, W, H, F, rfl, rfl, f2 k (by omega), f4, f5, by omega, by omega, fun a => ?_, s1⟩⟩⟩
  ·obtain ⟨f, hf, i, _, _, rfl⟩ := (s2 q).1 hq
   rw [sortI_len, List.length_map, f8 f hf]
   omega
  ·rw [s2 a]
   exact ⟨fun ⟨f, hf, x⟩ => ⟨f, (f7 f).1 hf, x⟩, fun ⟨f, hf, x⟩ => ⟨f, (f7 f).2 hf, x⟩⟩
 ·exact ⟨k1 + k2, c, [], ⟨by simp, fun q hq => by cases hq⟩, fun k hk => ⟨⟨c1 k (by omega), Or.inl ⟨h0, rfl⟩⟩, c2 k (by omega), Or.inl ⟨h0, rfl⟩⟩⟩
end Go.Proofs.YtbphiipcnjelbaaGreat.Pure
end
section
namespace Go.Proofs.YtbphiipcnjelbaaGreat.Pure
open Go.RowKit Go.Proofs.YtbphiipcnjelbaaGreat Go.Proofs.YtbphiipcnjelbaaGreat.Q Go.Proofs.YtbphiipcnjelbaaGreatW.PrintWords
set_option linter.unusedVariables false
set_option linter.unusedSimpArgs false
theorem mgd_at {α : Type} (A r : List α) (v z : α) (i : Nat) (h : A.length = i) : (A ++ v :: r).getD i z = v := by
 simp [List.getD_eq_getElem?_getD, List.getElem?_append_right (Nat.le_of_eq h), h]
theorem mset_at {α : Type} (A r : List α) (v u : α) (i : Nat) (h : A.length = i) : (A ++ v :: r).set i u = A ++ u :: r := by
 rw [List.set_append_right _ _ (Nat.le_of_eq h), h, Nat.sub_self, List.set_cons_zero]
def runP (a : Int) (i : Nat) : List Cell := (List.range i).map fun (j : Nat) => ⟨a + 2 * (j : Int), a + 2 * (j : Int) + 1⟩
theorem runP_len (a : Int) (i : Nat) : (runP a i).length = i := by simp [runP]
theorem runP_succ (a : Int) (i : Nat) : runP a (i + 1) = runP a i ++ [⟨a + 2 * (i : Int), a + 2 * (i : Int) + 1⟩] := by simp [runP, List.range_succ]
theorem markP_eq (l : List Cell) (a : Int) (h0 : 0 ≤ a) (hb : a + 2 * l.length ≤ 4611686018427387904) : Evt (fun k => laws_markCellS.f k l a) (a + 2 * l.length, runP a l.length) := by
 unfold laws_markCellS.f
 have key := Evt.upS (g := fun k i s => laws_markCellS.l0 k s (a + 2 * (i : Int)) (i : Int)) (R := fun _ _ => (a + 2 * (l.length : Int), runP a l.length)) (P := fun i s => s = runP a i ++ l.drop i) (n := l.length) ?_ ?_ 0 l (Nat.zero_le _) (by simp [runP])
 ·simpa using key
 ·rintro s rfl
  refine Evt.step (fun k => rfl) ?_
  simp only [laws_markCellS.l0]
  rw [List.drop_length, List.append_nil]
  exact Evt.ite_neg (by rw [runP_len]; omega) Evt.pure
 ·rintro i s hi rfl ih
  refine Evt.step (fun k => rfl) ?_
  have e1 : wrap64 (a + 2 * (i : Int) + 1) = a + 2 * (i : Int) + 1 := by unfold wrap64; omega
  have e3 : wrap64 (a + 2 * (i : Int) + 1 + 1) = a + 2 * ((i + 1 : Nat) : Int) := by unfold wrap64; omega
  simp only [laws_markCellS.l0, Option.bind_some, e1, e3]
  refine Evt.ite_pos (by rw [List.length_append, runP_len, List.length_drop]; omega) (Evt.ite_pos (by omega) ?_)
  rw [wrap_succ hi (by omega), drop_getD l i z66 hi]
  simp only [Int.toNat_natCast, rd_getD, mset_at _ _ _ _ _ (runP_len a i), mgd_at _ _ _ _ _ (runP_len a i)]
  exact ih _ (by rw [runP_succ, List.append_assoc]; rfl)
end Go.Proofs.YtbphiipcnjelbaaGreat.Pure
end
section
namespace Go.Proofs.YtbphiipcnjelbaaGreat.Pure
open Go.RowKit Go.Proofs.YtbphiipcnjelbaaGreat Go.Proofs.YtbphiipcnjelbaaGreat.Q Go.Proofs.YtbphiipcnjelbaaGreatW.PrintWords
set_option linter.unusedVariables false
set_option linter.unusedSimpArgs false
theorem rdII (l : List (List Int)) (i : Nat) : rd_L6 l (i : Int) = l.getD i [] := by simp [rd_L6]
def runI (a : Int) (i : Nat) : List Int := (List.range i).map fun (j : Nat) => a + (j : Int)
theorem runI_len (a : Int) (i : Nat) : (runI a i).length = i := by simp [runI]
theorem runI_succ (a : Int) (i : Nat) : runI a (i + 1) = runI a i ++ [a + (i : Int)] := by simp [runI, List.range_succ]
theorem markI_eq (l : List Int) (a : Int) (h0 : 0 ≤ a) (hb : a + l.length ≤ 4611686018427387904) : Evt (fun k => laws_markInt64S.f k l a) (a + l.length, runI a l.length) := by
 unfold laws_markInt64S.f
 have key := Evt.upS (g := fun k i s => laws_markInt64S.l0 k s (a + (i : Int)) (i : Int)) (R := fun _ _ => (a + (l.length : Int), runI a l.length)) (P := fun i s => s = runI a i ++ l.drop i) (n := l.length) ?_ ?_ 0 l (Nat.zero_le _) (by simp [runI])
 ·simpa using key
 ·rintro s rfl
  refine Evt.step (fun k => rfl) ?_
  simp only [laws_markInt64S.l0]
  rw [List.drop_length, List.append_nil]
  exact Evt.ite_neg (by rw [runI_len]; omega) Evt.pure
 ·rintro i s hi rfl ih
  refine Evt.step (fun k => rfl) ?_
  simp only [laws_markInt64S.l0]
  refine Evt.ite_pos (by rw [List.length_append, runI_len, List.length_drop]; omega) (Evt.ite_pos (by omega) ?_)
  rw [wrap_succ hi (by omega), Int.toNat_natCast, drop_getD l i 0 hi, mset_at _ _ _ _ _ (runI_len a i), show wrap64 (a + (i : Int) + 1) = a + ((i + 1 : Nat) : Int) by unfold wrap64; omega]
  exact ih _ (by rw [runI_succ, List.append_assoc]; rfl)
theorem runI_at (a : Int) {n i : Nat} (h : i < n) : (runI a n).getD i 0 = a + (i : Int) := by
 rw [List.getD_eq_getElem?_getD, List.getElem?_eq_getElem (by rw [runI_len]; exact h)]
 simp [runI]
theorem heldI_eq (n : Nat) (a : Int) (h0 : 0 ≤ a) (hb : a + n ≤ 4611686018427387904) : Evt (fun k => laws_heldInt64S.f k (runI a n) a) (a + n) := by
 unfold laws_heldInt64S.f
 have key := Evt.up (g := fun k i => laws_heldInt64S.l0 k (runI a n) (a + (i : Int)) (i : Int)) (R := fun _ => a + (n : Int)) (n := n) ?_ ?_ 0 (Nat.zero_le _)
 ·simpa using key
 ·refine Evt.step (fun k => rfl) ?_
  simp only [laws_heldInt64S.l0]
  exact Evt.ite_neg (by rw [runI_len]; omega) Evt.pure
 ·intro i hi ih
  refine Evt.step (fun k => rfl) ?_
  simp only [laws_heldInt64S.l0, rdI, runI_at a hi]
  refine Evt.ite_pos (by rw [runI_len]; omega) (Evt.ite_pos (by omega) (Evt.ite_pos (by simp) ?_))
  rw [wrap_succ hi (by omega), show wrap64 (a + (i : Int) + 1) = a + ((i + 1 : Nat) : Int) by unfold wrap64; omega]
  exact ih
theorem eqI_refl (l : List Int) (hl : l.length ≤ 1000000) : Evt (fun k => laws_eqInt64S.f k l l) true := by
 unfold laws_eqInt64S.f
 refine Evt.ite_pos rfl ?_
 refine Evt.up (g := fun k i => laws_eqInt64S.l0 k l l (i : Int)) (R := fun _ => true) (n := l.length) ?_ ?_ 0 (Nat.zero_le _)
 ·refine Evt.step (fun k => rfl) ?_
  simp only [laws_eqInt64S.l0]
  exact Evt.ite_neg (by omega) Evt.pure
 ·intro i hi ih
  refine Evt.step (fun k => rfl) ?_
  simp only [laws_eqInt64S.l0]
  refine Evt.ite_pos (by omega) (Evt.ite_pos (by omega) (Evt.ite_pos (by omega) (Evt.ite_pos trivial ?_)))
  rw [wrap_succ hi (by omega)]
  exact ih
def Mod (l : List (List Int)) : Prop := l.length ≤ 1000 ∧ ∀ q ∈ l, q.length ≤ 1000
theorem getD_memI (l : List (List Int)) (i : Nat) (h : i < l.length) : l.getD i [] ∈ l := by
 rw [show l.getD i [] = l[i] by simp [List.getD_eq_getElem?_getD, List.getElem?_eq_getElem h]]
 exact List.getElem_mem h
theorem eqII_refl (l : List (List Int)) (h : Mod l) : Evt (fun k => laws_eqInt64SS.f k l l) true := by
 have hl := h.1
 unfold laws_eqInt64SS.f
 refine Evt.ite_pos rfl ?_
 refine Evt.up (g := fun k i => laws_eqInt64SS.l0 k l l (i : Int)) (R := fun _ => true) (n := l.length) ?_ ?_ 0 (Nat.zero_le _)
 ·refine Evt.step (fun k => rfl) ?_
  simp only [laws_eqInt64SS.l0]
  exact Evt.ite_neg (by omega) Evt.pure
 ·intro i hi ih
  refine Evt.step (fun k => rfl) ?_
  simp only [laws_eqInt64SS.l0, rdII]
  refine Evt.ite_pos (by omega) (Evt.ite_pos (by omega) (Evt.ite_pos (by omega) ?_))
  have hq := h.2 _ (getD_memI l i hi)
  refine (eqI_refl _ (by omega)).bind (Evt.ite_pos rfl ?_)
  rw [wrap_succ hi (by omega)]
  exact ih
def runII : Int → List (List Int) → List (List Int)
 | _, [] => []
 | a, q :: r => runI a q.length :: runII (a + (q.length : Int)) r
def endII : Int → List (List Int) → Int
 | a, [] => a
 | a, q :: r => endII (a + (q.length : Int)) r
theorem runII_len : ∀ (a : Int) (l : List (List Int)), (runII a l).length = l.length
 | _, [] => rfl
 | a, q :: r => by rw [runII, List.length_cons, runII_len, List.length_cons]
theorem endII_le : ∀ (l : List (List Int)) (a : Int), a ≤ endII a l
 | [], a => Int.le_refl _
 | q :: r, a => by
  have := endII_le r (a + (q.length : Int))
  rw [endII]
  omega
theorem markIS_eq : ∀ (l : List (List Int)) (a : Int), 0 ≤ a → (∀ c ∈ l, c.length ≤ 1000) → a + 1000 * l.length ≤ 4611686018427387904 → Evt (fun k => markIS k l a) (endII a l, runII a l)
 | [], a, _, _, _ => Evt.pure
 | q :: r, a, h0, hc, hb => by
  have hq := hc q (by simp)
  rw [List.length_cons] at hb
  simp only [markIS]
  refine (markI_eq q a h0 (by omega)).bind ((markIS_eq r (a + (q.length : Int)) (by omega) (fun c h => hc c (by simp [h])) (by omega)).bind ?_)
  exact Evt.pure
theorem heldIS_eq (l : List (List Int)) (a : Int) (h0 : 0 ≤ a) (hM : Mod l) (hb : a ≤ 1000000000) : Evt (fun k => laws_heldInt64SS.f k (runII a l) a) (endII a l) := by
 unfold laws_heldInt64SS.f
 have hlen := runII_len a l
 have hl := hM.1
 have key := Evt.upS (g := fun k i (s : Int) => laws_heldInt64SS.l0 k (runII a l) s (i : Int)) (R := fun i s => endII s (l.drop i)) (P := fun i s => (runII a l).drop i = runII s (l.drop i) ∧ 0 ≤ s ∧ s ≤ a + 1000 * i) (n := l.length) ?_ ?_ 0 a (Nat.zero_le _) ⟨by simp, h0, by omega⟩
 ·simpa using key
 ·rintro s _
  refine Evt.step (fun k => rfl) ?_
  simp only [laws_heldInt64SS.l0]
  rw [List.drop_length, endII]
  exact Evt.ite_neg (by omega) Evt.pure
 ·rintro i s hi ⟨hd, hs0, hs1⟩ ih
  refine Evt.step (fun k => rfl) ?_
  simp only [laws_heldInt64SS.l0, rdII]
  have hq := hM.2 _ (getD_memI l i hi)
  rw [drop_getD l i [] hi, runII, drop_getD (runII a l) i [] (by omega)] at hd
  obtain ⟨e1, e2⟩ := List.cons.inj hd
  rw [drop_getD l i [] hi, endII, e1]
  refine Evt.ite_pos (by omega) (Evt.ite_pos (by omega) ((heldI_eq _ s hs0 (by omega)).bind (Evt.ite_neg (by omega) ?_)))
  rw [wrap_succ hi (by omega)]
  exact ih _ ⟨e2, by omega, by omega⟩
end Go.Proofs.YtbphiipcnjelbaaGreat.Pure
end
section
namespace Go.Proofs.YtbphiipcnjelbaaGreat.Pure
open Go.RowKit Go.Proofs.YtbphiipcnjelbaaGreat Go.Proofs.YtbphiipcnjelbaaGreat.Q Go.Proofs.YtbphiipcnjelbaaGreatW.PrintWords
set_option linter.unusedVariables false
set_option linter.unusedSimpArgs false
abbrev LCell := S70
theorem rdL (l : List LCell) (i : Nat) (h : i < l.length) : rd_T70 l (i : Int) = l[i] := by
 simp [rd_T70, List.getD_eq_getElem?_getD, List.getElem?_eq_getElem h]
def toC (c : LCell) : Cell := ⟨c.f0, c.f1⟩
def toCs (l : List LCell) : List Cell := l.map toC
theorem toCs_len (l : List LCell) : (toCs l).length = l.length := by simp [toCs]
theorem toCellS_loop (l : List LCell) (hl : l.length ≤ 1048576) : ∀ (i : Nat) (acc : List Cell), i ≤ l.length → (acc.length = l.length ∧ acc.take i = (toCs l).take i) → Evt (fun k => laws_toCellS.l0 k l acc (i : Int)) (toCs l) := by
 refine Evt.upS (R := fun _ _ => toCs l) ?_ ?_
 ·rintro acc ⟨h1, h2⟩
  refine Evt.step (fun k => rfl) ?_
  simp only [laws_toCellS.l0]
  refine Evt.ite_neg (by omega) ?_
  rw [List.take_of_length_le (by omega), List.take_of_length_le (by rw [toCs_len]; omega)] at h2
  rw [h2]
  exact Evt.pure
 ·rintro i acc hi ⟨h1, h2⟩ ih
  refine Evt.step (fun k => rfl) ?_
  simp only [laws_toCellS.l0, laws_toCell.f, Option.bind_some]
  refine Evt.ite_pos (by omega) (Evt.ite_pos (by omega) (Evt.ite_pos (by omega) ?_))
  rw [wrap_succ hi (by omega), Int.toNat_natCast]
  refine ih _ ⟨by simpa using h1, ?_⟩
  rw [rdL l i hi]
  apply List.ext_getElem?
  intro j
  have h3 := congrArg (fun z => z[j]?) h2
  simp only [List.getElem?_take] at h3 ⊢
  by_cases hj : j < i
  ·rw [if_pos (by omega)] at h3 ⊢
   rw [if_pos (by omega)] at h3 ⊢
   rw [List.getElem?_set_ne (by omega)]
   exact h3
  ·by_cases hj2 : j = i
   ·subst hj2
    rw [if_pos (by omega), if_pos (by omega), List.getElem?_set_self (by omega)]
    simp [toCs, toC, List.getElem?_eq_getElem hi]
   ·rw [if_neg (by omega), if_neg (by omega)]
theorem toCellS_eq (l : List LCell) (hl : l.length ≤ 1048576) : Evt (fun k => laws_toCellS.f k l) (toCs l) := by
 unfold laws_toCellS.f
 refine Evt.ite_pos (by omega) (Evt.ite_pos (by omega) ?_)
 exact toCellS_loop l hl 0 _ (Nat.zero_le _) ⟨by simp, by simp⟩
theorem eqCellS_refl (l : List Cell) (hl : l.length ≤ 9223372036854775807) : Evt (fun k => laws_eqCellS.f k l l) true := by
 unfold laws_eqCellS.f
 refine Evt.ite_pos rfl ?_
 refine Evt.up (g := fun k i => laws_eqCellS.l0 k l l (i : Int)) (R := fun _ => true) (n := l.length) ?_ ?_ 0 (Nat.zero_le _)
 ·refine Evt.step (fun k => rfl) ?_
  simp only [laws_eqCellS.l0]
  exact Evt.ite_neg (by omega) Evt.pure
 ·intro i hi ih
  refine Evt.step (fun k => rfl) ?_
  simp only [laws_eqCellS.l0, laws_eqCell.f, if_true, Option.bind_some]
  refine Evt.ite_pos (by omega) (Evt.ite_pos (by omega) (Evt.ite_pos (by omega) ?_))
  rw [wrap_succ hi hl]
  exact ih
end Go.Proofs.YtbphiipcnjelbaaGreat.Pure
end
section
namespace Go.Proofs.YtbphiipcnjelbaaGreat.Pure
open Go.RowKit Go.Proofs.YtbphiipcnjelbaaGreat Go.Proofs.YtbphiipcnjelbaaGreat.Q Go.Proofs.YtbphiipcnjelbaaGreat.UFnExactTorusCover Go.Proofs.YtbphiipcnjelbaaGreatW.PrintWords
set_option linter.unusedVariables false
set_option linter.unusedSimpArgs false
theorem szCellS_at (l : List LCell) (t : Int) (h0 : 0 ≤ t) (h1 : t ≤ 1000000000) (hl : l.length ≤ maxLen) : laws_szCellS.f l t = some (if t - l.length < 0 then -1 else t - l.length) := by
 unfold maxLen at hl
 unfold laws_szCellS.f
 rw [w64 (by omega) (by omega)]
 split <;> rfl
theorem FnExactTorusCover : laws_FnExactTorusCover_Pure := by
 intro l n m W H hl hn hW hH
 have key : ∃ k, CoverLaw k l n m W H := by
  by_cases h : l.length ≤ 1048576
  ·obtain ⟨k0, tp⟩ : Evt (fun k => laws_toPiece.f k l n m) (toCs l, n, m) := by
    unfold laws_toPiece.f
    exact (toCellS_eq l h).bind Evt.pure
   obtain ⟨k1, ep⟩ : Evt (fun k => laws_eqPiece.f k (toCs l) n m (toCs l) n m) true := by
    unfold laws_eqPiece.f
    exact (eqCellS_refl _ (by rw [toCs_len]; omega)).bind (Evt.ite_pos rfl (Evt.ite_pos rfl (Evt.ite_neg (by simp) Evt.pure)))
   obtain ⟨k2, mp⟩ : Evt (fun k => laws_markPiece.f k (toCs l) n m 1) (1 + 2 * ((toCs l).length : Int), runP 1 (toCs l).length) := by
    unfold laws_markPiece.f
    exact (markP_eq (toCs l) 1 (by omega) (by rw [toCs_len]; omega)).bind Evt.pure
   obtain ⟨k3, c, r, hr, hs⟩ := spots_both (toCs l) n m W H (by rw [toCs_len]; exact h)
   obtain ⟨k4, e1⟩ := eqII_refl r hr
   obtain ⟨k5, m1⟩ := markIS_eq r 1 (by omega) hr.2 (by have := hr.1; omega)
   obtain ⟨k6, g1⟩ := heldIS_eq r 1 (by omega) hr (by omega)
   have hq := endII_le r 1
   obtain ⟨s1, s2⟩ := hs (k0 + k1 + k2 + k3 + k4 + k5 + k6) (by omega)
   refine ⟨k0 + k1 + k2 + k3 + k4 + k5 + k6, 1048576 - (l.length : Int), ?_, Or.inr ⟨by omega, toCs l, n, m, c, r, tp _ (by omega), s1, s2, e1 _ (by omega), ep _ (by omega), _, _, mp _ (by omega), by omega, _, _, m1 _ (by omega), g1 _ (by omega), by omega⟩⟩
   unfold laws_szPiece.f
   rw [szCellS_at l 1048576 (by omega) (by omega) hl.1, if_neg (by omega)]
   simp only [Option.bind_some]
   rw [if_neg (by omega)]
  ·refine ⟨0, -1, ?_, Or.inl (by omega)⟩
   unfold laws_szPiece.f
   rw [szCellS_at l 1048576 (by omega) (by omega) hl.1, if_pos (by omega)]
   rfl
 obtain ⟨k, hk⟩ := key
 refine ⟨k, ?_⟩
 unfold laws_FnExactTorusCover.f
 exact if_pos hk
end Go.Proofs.YtbphiipcnjelbaaGreat.Pure
end
