/- The pure side of the law FnExactPatchOf: parts of this session, put into one text by merge.py. -/
import Derived.Test.YtpinaeegopdknaaQ0
import Derived.Test.YtpinaeegopdknaaOpn
import Derived.Test.YtpinaeegopdknaaQ2
import Derived.Test.YtpinaeegopdknaaQ8
import Derived.Test.YtpinaeegopdknaaQ3
import Derived.Test.YtpinaeegopdknaaQ5
import Derived.Test.YtpinaeegopdknaaQ4
import Derived.Test.YtpinaeegopdknaaQ11
import Derived.Test.YtpinaeegopdknaaQ9
import Derived.Test.YtpinaeegopdknaaQ10
import Derived.Test.YtpinaeegopdknaaQ6
import Derived.Test.YtpinaeegopdknaaQGimplLatticetiles
import Derived.Test.YtpinaeegopdknaaQGimplPatchOf
import Derived.Test.YtpinaeegopdknaaQ7
import Derived.Test.YtpinaeegopdknaaQ12
import Derived.Test.YtpinaeegopdknaaQ13
import Derived.Test.YtpinaeegopdknaaUFnExactPatchOf
section
namespace Go.Proofs.Ytpinaeegopdknaa.Pure
open Go.RowKit
set_option linter.unusedVariables false
set_option linter.unusedSimpArgs false
def Evt {α : Type} (g : Nat → Option α) (r : α) : Prop := ∃ K, ∀ k, K ≤ k → g k = some r
theorem Evt.out {α : Type} {g : Nat → Option α} {r : α} (h : Evt g r) : ∃ k, g k = some r := by
  obtain ⟨K, h⟩ := h
  exact ⟨K, h K (Nat.le_refl _)⟩
theorem Evt.pure {α : Type} {r : α} : Evt (fun _ => some r) r := ⟨0, fun _ _ => rfl⟩
theorem Evt.const {α : Type} {o : Option α} {r : α} (h : o = some r) : Evt (fun _ => o) r := ⟨0, fun _ _ => h⟩
theorem Evt.of_eq {α : Type} {g g' : Nat → Option α} {r : α} (e : ∀ k, g' k = g k) (h : Evt g r) : Evt g' r := by
  obtain ⟨K, h⟩ := h
  exact ⟨K, fun k hk => (e k).trans (h k hk)⟩
theorem Evt.bind {α β : Type} {g : Nat → Option α} {f : Nat → α → Option β} {a : α} {r : β} (h : Evt g a) (h2 : Evt (fun k => f k a) r) : Evt (fun k => (g k).bind (f k)) r := by
  obtain ⟨K, h⟩ := h
  obtain ⟨K2, h2⟩ := h2
  refine ⟨K + K2, fun k hk => ?_⟩
  show (g k).bind (f k) = some r
  rw [h k (by omega)]
  exact h2 k (by omega)
theorem Evt.step {α : Type} {g h : Nat → Option α} {r : α} (e : ∀ k, g (k + 1) = h k) (hh : Evt h r) : Evt g r := by
  obtain ⟨K, hh⟩ := hh
  refine ⟨K + 1, fun k hk => ?_⟩
  obtain ⟨m, rfl⟩ : ∃ m, k = m + 1 := ⟨k - 1, by omega⟩
  rw [e m]
  exact hh m (by omega)
theorem Evt.ite_pos {α : Type} {c : Prop} [Decidable c] {g h : Nat → Option α} {r : α} (hc : c) (hg : Evt g r) : Evt (fun k => if c then g k else h k) r := Evt.of_eq (fun k => if_pos hc) hg
theorem Evt.ite_neg {α : Type} {c : Prop} [Decidable c] {g h : Nat → Option α} {r : α} (hc : ¬ c) (hg : Evt h r) : Evt (fun k => if c then g k else h k) r := Evt.of_eq (fun k => if_neg hc) hg
theorem Evt.up {α : Type} {g : Nat → Nat → Option α} {R : Nat → α} {n : Nat} (hend : Evt (fun k => g k n) (R n)) (hstep : ∀ i, i < n → Evt (fun k => g k (i + 1)) (R (i + 1)) → Evt (fun k => g k i) (R i)) : ∀ i, i ≤ n → Evt (fun k => g k i) (R i) := by
  intro i hi
  obtain ⟨d, hd⟩ : ∃ d, n = i + d := ⟨n - i, by omega⟩
  induction d generalizing i with
  | zero => have e : i = n := by omega
            rw [e]; exact hend
  | succ d ih => exact hstep i (by omega) (ih (i + 1) (by omega) (by omega))
theorem Evt.upS {α σ : Type} {g : Nat → Nat → σ → Option α} {R : Nat → σ → α} {P : Nat → σ → Prop} {n : Nat} (hend : ∀ s, P n s → Evt (fun k => g k n s) (R n s))
    (hstep : ∀ i s, i < n → P i s → (∀ s', P (i + 1) s' → Evt (fun k => g k (i + 1) s') (R (i + 1) s')) → Evt (fun k => g k i s) (R i s)) : ∀ i s, i ≤ n → P i s → Evt (fun k => g k i s) (R i s) := by
  intro i s hi hp
  obtain ⟨d, hd⟩ : ∃ d, n = i + d := ⟨n - i, by omega⟩
  induction d generalizing i s with
  | zero => have e : i = n := by omega
            rw [e] at hp ⊢; exact hend s hp
  | succ d ih => exact hstep i s (by omega) hp (fun s' hp' => ih (i + 1) s' (by omega) hp' (by omega))
def Both {α : Type} (g h : Nat → Option α) : Prop := ∃ r, Evt g r ∧ Evt h r
theorem Both.pure {α : Type} {r : α} : Both (fun _ => some r) (fun _ => some r) := ⟨r, Evt.pure, Evt.pure⟩
theorem wrap_succ {i n : Nat} (h : i < n) (hn : n ≤ 9223372036854775807) : wrap64 ((i : Int) + 1) = ((i + 1 : Nat) : Int) := by
  unfold wrap64
  omega
end Go.Proofs.Ytpinaeegopdknaa.Pure
end
section
namespace Go.Proofs.Ytpinaeegopdknaa.Pure
open Go.RowKit Go.Proofs.Ytpinaeegopdknaa Go.Proofs.Ytpinaeegopdknaa.Q Go.Proofs.YtpinaeegopdknaaW.PrintWords
set_option linter.unusedVariables false
set_option linter.unusedSimpArgs false
theorem w64 {n : Int} (h0 : -9223372036854775808 ≤ n) (h1 : n ≤ 9223372036854775807) : wrap64 n = n := by
  unfold wrap64
  omega
theorem in_eq (a b c : Int) : spec_l01In.f a b c = some (decide (b ≤ a ∧ a ≤ c)) := by
  unfold spec_l01In.f
  by_cases h : a ≥ b
  · rw [if_pos h]; simp; intro _; exact h
  · rw [if_neg h]; simp; intro h2; omega
theorem within_eq (a b c : Int) : impl_within.f a b c = some (decide (b ≤ a ∧ a ≤ c)) := in_eq a b c
end Go.Proofs.Ytpinaeegopdknaa.Pure
end
section
namespace Go.Proofs.Ytpinaeegopdknaa.Pure
open Go.RowKit Go.Proofs.Ytpinaeegopdknaa Go.Proofs.Ytpinaeegopdknaa.Q Go.Proofs.YtpinaeegopdknaaW.PrintWords
set_option linter.unusedVariables false
set_option linter.unusedSimpArgs false
def Co (x : Int) : Bool := decide (-100 ≤ x ∧ x ≤ 100)
theorem Co_iff {x : Int} : Co x = true ↔ -100 ≤ x ∧ x ≤ 100 := by simp [Co]
theorem l02Cell_eq (x y : Int) : spec_l02Cell.f x y = some (Co x && Co y) := by
  unfold spec_l02Cell.f Co
  rw [in_eq]
  simp only [Option.bind_some]
  by_cases c : -100 ≤ x ∧ x ≤ 100
  · rw [if_pos (by simpa using c), in_eq]
    simp [c]
  · rw [if_neg (by simpa using c)]
    simp [c]
end Go.Proofs.Ytpinaeegopdknaa.Pure
end
section
namespace Go.Proofs.Ytpinaeegopdknaa.Pure
open Go.RowKit Go.Proofs.Ytpinaeegopdknaa Go.Proofs.Ytpinaeegopdknaa.Q Go.Proofs.YtpinaeegopdknaaW.PrintWords
set_option linter.unusedVariables false
set_option linter.unusedSimpArgs false
abbrev Cell := S43
def allF (ok : Nat → Bool) (n i : Nat) : Bool := (List.range' i (n - i)).all ok
theorem allF_end (ok : Nat → Bool) (n : Nat) : allF ok n n = true := by simp [allF]
theorem allF_succ (ok : Nat → Bool) {n i : Nat} (h : i < n) : allF ok n i = (ok i && allF ok n (i + 1)) := by
  unfold allF
  rw [show n - i = (n - (i + 1)) + 1 by omega, List.range'_succ]
  rfl
theorem allF_true {ok : Nat → Bool} {n i : Nat} : allF ok n i = true ↔ ∀ j, i ≤ j → j < n → ok j = true := by
  unfold allF
  rw [List.all_eq_true]
  constructor
  · intro h j h1 h2
    exact h j (by rw [List.mem_range'_1]; omega)
  · intro h j hj
    rw [List.mem_range'_1] at hj
    exact h j (by omega) (by omega)
def lessC (a b : Cell) : Bool := decide (a.f1 < b.f1) || (decide (a.f1 = b.f1) && decide (a.f0 < b.f0))
theorem l02Less_eq (a b : Cell) : spec_l02Less.f a.f0 a.f1 b.f0 b.f1 = some (lessC a b) := by
  unfold spec_l02Less.f lessC
  by_cases h : a.f1 < b.f1
  · simp [h]
  · by_cases h2 : a.f1 = b.f1
    · simp [h2]
    · simp [h, h2]
def shOk (l : List Cell) (i : Nat) : Bool := (Co (l.getD i z43).f0 && Co (l.getD i z43).f1) && (decide (i = 0) || lessC (l.getD (i - 1) z43) (l.getD i z43))
def Sh (l : List Cell) : Bool := allF (shOk l) l.length 0 && decide (1 ≤ l.length ∧ l.length ≤ 40)
theorem rd_getD (l : List Cell) (i : Nat) : rd_T43 l (i : Int) = l.getD i z43 := by simp [rd_T43]
theorem spec_IsShape_eq (l : List Cell) (hl : l.length ≤ 9223372036854775807) : Evt (fun k => spec_IsShape.f k l) (Sh l) := by
  unfold spec_IsShape.f
  refine Evt.up (g := fun k i => spec_IsShape.l0 k l (i : Int)) (R := fun i => allF (shOk l) l.length i && decide (1 ≤ l.length ∧ l.length ≤ 40)) (n := l.length) ?_ ?_ 0 (Nat.zero_le _)
  · refine Evt.step (fun k => rfl) ?_
    simp only [spec_IsShape.l0]
    refine Evt.ite_neg (by omega) ?_
    rw [in_eq, allF_end, Bool.true_and]
    refine Evt.const ?_
    simp only [Option.bind_some]
    congr 1
    exact decide_eq_decide.2 (by omega)
  · intro i hi ih
    refine Evt.step (fun k => rfl) ?_
    simp only [spec_IsShape.l0, l02Cell_eq, Option.bind_some]
    refine Evt.ite_pos (by omega) (Evt.ite_pos (by omega) ?_)
    rw [allF_succ _ hi]
    simp only [rd_getD]
    by_cases hc : (Co (l.getD i z43).f0 && Co (l.getD i z43).f1) = true
    · refine Evt.ite_pos hc ?_
      by_cases h0 : i = 0
      · subst h0
        refine Evt.ite_neg (by omega) ?_
        rw [wrap_succ hi hl]
        have e : shOk l 0 = true := by unfold shOk; rw [hc]; rfl
        rw [e, Bool.true_and]
        exact ih
      · refine Evt.ite_pos (by omega) ?_
        have ew : wrap64 ((i : Int) - 1) = ((i - 1 : Nat) : Int) := by rw [w64 (by omega) (by omega)]; omega
        simp only [ew, rd_getD, l02Less_eq, Option.bind_some]
        refine Evt.ite_pos (by omega) (Evt.ite_pos (by omega) ?_)
        rw [wrap_succ hi hl]
        by_cases hls : lessC (l.getD (i - 1) z43) (l.getD i z43) = true
        · refine Evt.ite_pos hls ?_
          have e : shOk l i = true := by unfold shOk; rw [hc, hls]; simp
          rw [e, Bool.true_and]
          exact ih
        · refine Evt.ite_neg hls ?_
          have e : shOk l i = false := by unfold shOk; rw [hc, Bool.eq_false_iff.mpr hls]; simp [h0]
          rw [e]
          exact Evt.pure
    · refine Evt.ite_neg hc ?_
      have e : shOk l i = false := by unfold shOk; rw [Bool.eq_false_iff.mpr hc]; rfl
      rw [e]
      exact Evt.pure
theorem Sh_len {l : List Cell} (h : Sh l = true) : 1 ≤ l.length ∧ l.length ≤ 40 := by
  unfold Sh at h
  simp only [Bool.and_eq_true, decide_eq_true_eq] at h
  exact h.2
theorem Sh_co {l : List Cell} (h : Sh l = true) : ∀ c ∈ l, (-100 ≤ c.f0 ∧ c.f0 ≤ 100) ∧ -100 ≤ c.f1 ∧ c.f1 ≤ 100 := by
  intro c hc
  obtain ⟨i, hi, rfl⟩ := List.getElem_of_mem hc
  unfold Sh at h
  simp only [Bool.and_eq_true, decide_eq_true_eq] at h
  have h2 := allF_true.1 h.1 i (Nat.zero_le _) hi
  unfold shOk at h2
  simp only [Bool.and_eq_true, List.getD_eq_getElem?_getD, List.getElem?_eq_getElem hi, Option.getD_some] at h2
  exact ⟨Co_iff.1 h2.1.1, Co_iff.1 h2.1.2⟩
end Go.Proofs.Ytpinaeegopdknaa.Pure
end
section
namespace Go.Proofs.Ytpinaeegopdknaa.Pure
open Go.RowKit Go.Proofs.Ytpinaeegopdknaa Go.Proofs.Ytpinaeegopdknaa.Q Go.Proofs.YtpinaeegopdknaaW.PrintWords
set_option linter.unusedVariables false
set_option linter.unusedSimpArgs false
def cc (p : Int × Int) : Cell := ⟨p.1, p.2⟩
theorem cc_inj {p q : Int × Int} (h : cc p = cc q) : p = q := by
  unfold cc at h
  injection h with h1 h2
  exact Prod.ext h1 h2
def ixAt (p : Int × Int) : Nat → List Cell → Int
  | _, [] => -1
  | i, c :: r => if c.f0 = p.1 ∧ c.f1 = p.2 then (i : Int) else ixAt p (i + 1) r
theorem ixAt_mem (p : Int × Int) : ∀ (l : List Cell) (i : Nat), 0 ≤ ixAt p i l ↔ cc p ∈ l
  | [], i => by simp [ixAt]
  | c :: r, i => by
    unfold ixAt
    by_cases h : c.f0 = p.1 ∧ c.f1 = p.2
    · rw [if_pos h]
      have e : c = cc p := by
        cases c
        unfold cc
        simp at h
        rw [h.1, h.2]
      simp [e]
    · rw [if_neg h, ixAt_mem p r (i + 1), List.mem_cons]
      constructor
      · exact fun h2 => Or.inr h2
      · rintro (e | h2)
        · exact absurd (by rw [← e]; exact ⟨rfl, rfl⟩) h
        · exact h2
theorem drop_getD {α : Type} (l : List α) (i : Nat) (z : α) (h : i < l.length) : l.drop i = l.getD i z :: l.drop (i + 1) := by
  rw [List.drop_eq_getElem_cons h]
  simp [List.getD_eq_getElem?_getD, List.getElem?_eq_getElem h]
theorem l02Index_eq (l : List Cell) (x y : Int) (hl : l.length ≤ 9223372036854775807) : Evt (fun k => spec_l02Index.f k l x y) (ixAt (x, y) 0 l) := by
  unfold spec_l02Index.f
  have h := Evt.up (g := fun k i => spec_l02Index.l0 k l (i : Int) x y) (R := fun i => ixAt (x, y) i (l.drop i)) (n := l.length) ?_ ?_ 0 (Nat.zero_le _)
  · exact h
  · refine Evt.step (fun k => rfl) ?_
    simp only [spec_l02Index.l0]
    refine Evt.ite_neg (by omega) ?_
    rw [List.drop_length]
    exact Evt.pure
  · intro i hi ih
    refine Evt.step (fun k => rfl) ?_
    simp only [spec_l02Index.l0, rd_getD]
    refine Evt.ite_pos (by omega) (Evt.ite_pos (by omega) ?_)
    rw [drop_getD l i z43 hi]
    unfold ixAt
    by_cases hc : (l.getD i z43).f0 = x ∧ (l.getD i z43).f1 = y
    · rw [if_pos hc]
      refine Evt.ite_pos (by rw [hc.1, hc.2]; simp) Evt.pure
    · rw [if_neg hc]
      refine Evt.ite_neg (by simpa using hc) ?_
      rw [wrap_succ hi hl]
      exact ih
end Go.Proofs.Ytpinaeegopdknaa.Pure
end
section
namespace Go.Proofs.Ytpinaeegopdknaa.Pure
open Go.RowKit Go.Proofs.Ytpinaeegopdknaa Go.Proofs.Ytpinaeegopdknaa.Q Go.Proofs.YtpinaeegopdknaaW.PrintWords
set_option linter.unusedVariables false
set_option linter.unusedSimpArgs false
def Lat (w s h : Int) : Bool := decide (1 ≤ w ∧ w ≤ 40) && (decide (1 ≤ h ∧ h ≤ 40) && decide (0 ≤ s ∧ s ≤ w - 1))
theorem Lat_iff {w s h : Int} : Lat w s h = true ↔ 1 ≤ w ∧ w ≤ 40 ∧ 1 ≤ h ∧ h ≤ 40 ∧ 0 ≤ s ∧ s < w := by
  unfold Lat
  simp
  omega
theorem isLattice_spec (w s h : Int) : spec_IsLattice.f w s h = some (Lat w s h) := by
  unfold spec_IsLattice.f Lat
  rw [in_eq]
  simp only [Option.bind_some]
  by_cases c1 : 1 ≤ w ∧ w ≤ 40
  · rw [if_pos (by simpa using c1), in_eq]
    simp only [Option.bind_some]
    by_cases c2 : 1 ≤ h ∧ h ≤ 40
    · rw [if_pos (by simpa using c2), in_eq, w64 (by omega) (by omega)]
      simp [c1, c2]
    · rw [if_neg (by simpa using c2)]
      simp [c2]
  · rw [if_neg (by simpa using c1)]
    simp [c1]
theorem isLattice_impl (w s h : Int) : impl_IsLattice.f w s h = some (Lat w s h) := isLattice_spec w s h
theorem tmod_bound (a m : Int) (hm : 0 < m) : -m < Int.tmod a m ∧ Int.tmod a m < m := by
  have h1 := Int.tmod_lt_of_pos a hm
  have h2 := Int.lt_tmod_of_pos a hm
  exact ⟨h2, h1⟩
theorem mod_eq (a m : Int) (hm : 0 < m) (hb : m ≤ 1000000000) : Int.tmod (wrap64 (Int.tmod a m + m)) m = a % m := by
  obtain ⟨h1, h2⟩ := tmod_bound a m hm
  rw [w64 (by omega) (by omega), Int.tmod_eq_emod_of_nonneg (by omega)]
  have h3 := Int.mul_tdiv_add_tmod a m
  have h4 : Int.tmod a m + m = a + m * (1 - Int.tdiv a m) := by rw [Int.mul_sub, Int.mul_one]; omega
  rw [h4, Int.add_mul_emod_self_left]
theorem l01Mod_eq (a m : Int) (hm : 0 < m) (hb : m ≤ 1000000000) : spec_l01Mod.f a m = some (a % m) := by
  unfold spec_l01Mod.f
  rw [if_neg (by omega), mod_eq a m hm hb]
theorem modOf_eq (a m : Int) (hm : 0 < m) (hb : m ≤ 1000000000) : impl_modOf.f a m = some (a % m) := l01Mod_eq a m hm hb
theorem floor_div (a m : Int) (hm : 0 < m) : Int.tdiv (a - a % m) m = a / m := by
  have h := Int.mul_ediv_add_emod a m
  have h2 : a - a % m = m * (a / m) := by omega
  rw [h2, Int.mul_tdiv_cancel_left _ (by omega)]
theorem div_abs (a m b : Int) (hm : 1 ≤ m) (h0 : -b ≤ a) (h1 : a ≤ b) : -b ≤ a / m ∧ a / m ≤ b := by
  have hb : 0 ≤ b := by omega
  constructor
  · rw [Int.le_ediv_iff_mul_le (by omega)]
    have : -b * m ≤ -b * 1 := Int.mul_le_mul_of_nonpos_left (by omega) hm
    omega
  · rcases Int.lt_or_le a 0 with hn | hp
    · have := Int.ediv_neg_of_neg_of_pos hn (by omega : (0:Int) < m)
      omega
    · exact Int.le_trans (Int.ediv_le_self m hp) h1
def cm (x y w s h : Int) : Int × Int := ((x - y / h * s) % w, y % h)
theorem mul_small {q s : Int} (h0 : -1000000 ≤ q) (h1 : q ≤ 1000000) (s0 : 0 ≤ s) (s1 : s ≤ 40) : -40000000 ≤ q * s ∧ q * s ≤ 40000000 := by
  constructor
  · have h2 : -1000000 * s ≤ q * s := Int.mul_le_mul_of_nonneg_right h0 s0
    omega
  · have h2 : q * s ≤ 1000000 * s := Int.mul_le_mul_of_nonneg_right h1 s0
    omega
theorem l24Cell_eq {x y w s h : Int} (hL : Lat w s h = true) (x0 : -1000000 ≤ x) (x1 : x ≤ 1000000) (y0 : -1000000 ≤ y) (y1 : y ≤ 1000000) : spec_l24Cell.f x y w s h = some (cm x y w s h) := by
  obtain ⟨w0, w1, h0, h1, s0, s1⟩ := Lat_iff.1 hL
  have hq := div_abs y h 1000000 h0 y0 y1
  have hm0 := Int.emod_nonneg y (by omega : h ≠ 0)
  have hm1 := Int.emod_lt_of_pos y (by omega : 0 < h)
  have e := Int.mul_ediv_add_emod y h
  have hs := mul_small hq.1 hq.2 s0 (by omega)
  have hh := mul_small hq.1 hq.2 (by omega : 0 ≤ h) h1
  unfold spec_l24Cell.f spec_l24Floor.f cm
  rw [l01Mod_eq y h (by omega) (by omega)]
  simp only [Option.bind_some]
  rw [if_neg (by omega), w64 (n := y - y % h) (by omega) (by omega), floor_div y h (by omega), w64 (n := y / h) (by omega) (by omega)]
  simp only [Option.bind_some]
  rw [w64 (n := y / h * s) (by omega) (by omega), w64 (n := x - y / h * s) (by omega) (by omega), l01Mod_eq _ w (by omega) (by omega)]
  simp only [Option.bind_some]
  rw [w64 (n := y / h * h) (by omega) (by omega), w64 (by rw [Int.mul_comm]; omega) (by rw [Int.mul_comm]; omega)]
  have : y - y / h * h = y % h := by rw [Int.mul_comm]; omega
  rw [this]
theorem modulo_eq {x y w s h : Int} (hL : Lat w s h = true) (x0 : -1000000 ≤ x) (x1 : x ≤ 1000000) (y0 : -1000000 ≤ y) (y1 : y ≤ 1000000) : impl_Lattice_modulo.f w s h x y = some (cm x y w s h) := by
  obtain ⟨w0, w1, h0, h1, s0, s1⟩ := Lat_iff.1 hL
  have hq := div_abs y h 1000000 h0 y0 y1
  have hm0 := Int.emod_nonneg y (by omega : h ≠ 0)
  have hm1 := Int.emod_lt_of_pos y (by omega : 0 < h)
  have hs := mul_small hq.1 hq.2 s0 (by omega)
  unfold impl_Lattice_modulo.f cm
  rw [modOf_eq y h (by omega) (by omega)]
  simp only [Option.bind_some]
  rw [if_neg (by omega), w64 (n := y - y % h) (by omega) (by omega), floor_div y h (by omega), w64 (n := y / h) (by omega) (by omega), w64 (n := y / h * s) (by omega) (by omega), w64 (by omega) (by omega), modOf_eq _ w (by omega) (by omega)]
  rfl
theorem isCoordinate_eq (x : Int) : impl_isCoordinate.f x = some (Co x) := by
  unfold impl_isCoordinate.f
  rw [within_eq]
  rfl
end Go.Proofs.Ytpinaeegopdknaa.Pure
end
section
namespace Go.Proofs.Ytpinaeegopdknaa.Pure
open Go.RowKit Go.Proofs.Ytpinaeegopdknaa Go.Proofs.Ytpinaeegopdknaa.Q Go.Proofs.YtpinaeegopdknaaW.PrintWords
set_option linter.unusedVariables false
set_option linter.unusedSimpArgs false
theorem isNaN_eq (x : Int) : cmp_isNaN_int64.f x = some false := by
  unfold cmp_isNaN_int64.f
  simp
def cmpI (a b : Int) : Int := if a < b then -1 else if a > b then 1 else 0
theorem Compare_eq (a b : Int) : cmp_Compare_int64.f a b = some (cmpI a b) := by
  unfold cmp_Compare_int64.f cmpI
  rw [isNaN_eq, isNaN_eq]
  simp only [Option.bind_some]
  by_cases h1 : a < b
  · simp [h1]
  · by_cases h2 : a > b
    · simp [h1, h2]
    · simp [h1, h2]
def cmpC (a b : Cell) : Int := if cmpI a.f1 b.f1 = 0 then cmpI a.f0 b.f0 else cmpI a.f1 b.f1
theorem compareCells_eq (a b : Cell) : impl_compareCells.f a.f0 a.f1 b.f0 b.f1 = some (cmpC a b) := by
  unfold impl_compareCells.f cmpC
  rw [Compare_eq, Compare_eq]
  simp only [Option.bind_some]
  by_cases h : cmpI a.f1 b.f1 = 0
  · rw [if_pos h, if_pos h]
  · rw [if_neg h, if_neg h]
theorem cmpC_less (a b : Cell) : cmpC a b < 0 ↔ lessC a b = true := by
  unfold cmpC cmpI lessC
  repeat (split)
  all_goals (simp; omega)
theorem impl_IsShape_eq (l : List Cell) (hl : l.length ≤ 9223372036854775807) : Evt (fun k => impl_IsShape.f k l) (Sh l) := by
  unfold impl_IsShape.f
  refine Evt.up (g := fun k i => impl_IsShape.l0 k l l (l.length : Int) (i : Int)) (R := fun i => allF (shOk l) l.length i && decide (1 ≤ l.length ∧ l.length ≤ 40)) (n := l.length) ?_ ?_ 0 (Nat.zero_le _)
  · refine Evt.step (fun k => rfl) ?_
    simp only [impl_IsShape.l0]
    refine Evt.ite_neg (by omega) ?_
    rw [allF_end]
    by_cases h1 : (l.length : Int) ≥ 1
    · refine Evt.ite_pos h1 (Evt.const ?_)
      rw [Bool.true_and]
      congr 1
      exact decide_eq_decide.2 (by omega)
    · refine Evt.ite_neg h1 (Evt.const ?_)
      simp
      omega
  · intro i hi ih
    refine Evt.step (fun k => rfl) ?_
    simp only [impl_IsShape.l0, isCoordinate_eq, Option.bind_some]
    refine Evt.ite_pos (by omega) (Evt.ite_pos (by omega) (Evt.ite_pos (by omega) ?_))
    rw [allF_succ _ hi]
    simp only [rd_getD]
    by_cases hc0 : Co (l.getD i z43).f0 = true
    · refine Evt.ite_pos hc0 ?_
      by_cases hc1 : Co (l.getD i z43).f1 = true
      · refine Evt.ite_pos hc1 ?_
        by_cases h0 : i = 0
        · subst h0
          refine Evt.ite_neg (by omega) ?_
          rw [wrap_succ hi hl]
          have e : shOk l 0 = true := by unfold shOk; rw [hc0, hc1]; rfl
          rw [e, Bool.true_and]
          exact ih
        · refine Evt.ite_pos (by omega) ?_
          have ew : wrap64 ((i : Int) - 1) = ((i - 1 : Nat) : Int) := by rw [w64 (by omega) (by omega)]; omega
          simp only [ew, rd_getD, compareCells_eq, Option.bind_some]
          refine Evt.ite_pos (by omega) (Evt.ite_pos (by omega) ?_)
          rw [wrap_succ hi hl]
          have hiff := cmpC_less (l.getD (i - 1) z43) (l.getD i z43)
          by_cases hls : lessC (l.getD (i - 1) z43) (l.getD i z43) = true
          · refine Evt.ite_neg (by have := hiff.2 hls; omega) ?_
            have e : shOk l i = true := by unfold shOk; rw [hc0, hc1, hls]; simp
            rw [e, Bool.true_and]
            exact ih
          · refine Evt.ite_pos (by rcases Int.lt_or_le (cmpC (l.getD (i - 1) z43) (l.getD i z43)) 0 with h | h; exact absurd (hiff.1 h) hls; exact h) ?_
            have e : shOk l i = false := by unfold shOk; rw [hc0, hc1, Bool.eq_false_iff.mpr hls]; simp [h0]
            rw [e]
            exact Evt.pure
      · refine Evt.ite_neg hc1 ?_
        have e : shOk l i = false := by unfold shOk; rw [Bool.eq_false_iff.mpr hc1]; simp
        rw [e]
        exact Evt.pure
    · refine Evt.ite_neg hc0 ?_
      have e : shOk l i = false := by unfold shOk; rw [Bool.eq_false_iff.mpr hc0]; rfl
      rw [e]
      exact Evt.pure
end Go.Proofs.Ytpinaeegopdknaa.Pure
end
section
namespace Go.Proofs.Ytpinaeegopdknaa.Pure
open Go.RowKit Go.Proofs.Ytpinaeegopdknaa Go.Proofs.Ytpinaeegopdknaa.Q Go.Proofs.YtpinaeegopdknaaW.PrintWords
set_option linter.unusedVariables false
set_option linter.unusedSimpArgs false
def key (w s h : Int) (c : Cell) : Int × Int := cm c.f0 c.f1 w s h
def Small (l : List Cell) : Prop := ∀ c ∈ l, (-1000000 ≤ c.f0 ∧ c.f0 ≤ 1000000) ∧ -1000000 ≤ c.f1 ∧ c.f1 ≤ 1000000
theorem Sh_small {l : List Cell} (h : Sh l = true) : Small l := fun c hc => by have := Sh_co h c hc; omega
def tl (w s h : Int) : List Cell → List Cell → Bool
  | [], _ => true
  | c :: r, seen => if 0 ≤ ixAt (key w s h c) 0 seen then false else tl w s h r (seen ++ [cc (key w s h c)])
def til (l : List Cell) (w s h : Int) : Bool := if w * h = (l.length : Int) then tl w s h l [] else false
theorem l24Tiles_eq (l : List Cell) {w s h : Int} (hL : Lat w s h = true) (hs : Small l) (hl : l.length ≤ 1000000) : Evt (fun k => spec_l24Tiles.f k l w s h) (til l w s h) := by
  obtain ⟨w0, w1, h0, h1, s0, s1⟩ := Lat_iff.1 hL
  have hm := mul_small (q := w) (s := h) (by omega) (by omega) (by omega) (by omega)
  unfold spec_l24Tiles.f til
  rw [w64 (by omega) (by omega)]
  by_cases hc : w * h = (l.length : Int)
  · rw [if_pos hc]
    refine Evt.ite_pos hc ?_
    refine Evt.upS (g := fun k i seen => spec_l24Tiles.l0 k l seen (i : Int) w s h) (R := fun i seen => tl w s h (l.drop i) seen) (P := fun i seen => seen.length = i) (n := l.length) ?_ ?_ 0 [] (Nat.zero_le _) rfl
    · rintro seen _
      refine Evt.step (fun k => rfl) ?_
      simp only [spec_l24Tiles.l0]
      refine Evt.ite_neg (by omega) ?_
      rw [List.drop_length]
      exact Evt.pure
    · rintro i seen hi hp ih
      refine Evt.step (fun k => rfl) ?_
      have hb := hs (l.getD i z43) (by rw [List.getD_eq_getElem?_getD, List.getElem?_eq_getElem hi]; exact List.getElem_mem hi)
      simp only [spec_l24Tiles.l0, rd_getD, l24Cell_eq hL hb.1.1 hb.1.2 hb.2.1 hb.2.2, Option.bind_some]
      refine Evt.ite_pos (by omega) (Evt.ite_pos (by omega) ?_)
      refine Evt.bind (l02Index_eq seen _ _ (by omega)) ?_
      rw [drop_getD l i z43 hi]
      unfold tl
      by_cases hx : 0 ≤ ixAt (key w s h (l.getD i z43)) 0 seen
      · rw [if_pos hx]
        exact Evt.ite_pos hx Evt.pure
      · rw [if_neg hx]
        refine Evt.ite_neg hx (Evt.ite_pos (by omega) ?_)
        rw [wrap_succ hi (by omega)]
        exact ih _ (by simp [hp])
  · rw [if_neg hc]
    exact Evt.ite_neg hc Evt.pure
theorem tl_iff (w s h : Int) : ∀ (l seen : List Cell), tl w s h l seen = true ↔ (l.map (key w s h)).Nodup ∧ ∀ c ∈ l, cc (key w s h c) ∉ seen
  | [], seen => by simp [tl]
  | c :: r, seen => by
    unfold tl
    have hm := ixAt_mem (key w s h c) seen 0
    by_cases hx : 0 ≤ ixAt (key w s h c) 0 seen
    · rw [if_pos hx]
      simp only [Bool.false_eq_true, false_iff, not_and]
      intro _ h2
      exact h2 c List.mem_cons_self (hm.1 hx)
    · rw [if_neg hx, tl_iff w s h r]
      have hns : cc (key w s h c) ∉ seen := fun h2 => hx (hm.2 h2)
      simp only [List.map_cons, List.nodup_cons, List.mem_append, List.mem_singleton, not_or, List.mem_map, not_exists, not_and, List.mem_cons]
      constructor
      · rintro ⟨h1, h2⟩
        refine ⟨⟨fun d hd he => (h2 d hd).2.1 (by rw [he]), h1⟩, ?_⟩
        rintro d (rfl | hd)
        · exact hns
        · exact (h2 d hd).1
      · rintro ⟨⟨h1, h2⟩, h3⟩
        exact ⟨h2, fun d hd => ⟨h3 d (Or.inr hd), fun he => h1 d hd (cc_inj he), by simp⟩⟩
theorem mget_some {κ ε : Type} [DecidableEq κ] : ∀ (L : List (κ × ε)) (x : κ), (mget L x).isSome = true ↔ x ∈ L.map Prod.fst
  | [], x => by simp [mget]
  | p :: r, x => by
    unfold mget
    by_cases h : p.1 = x
    · rw [if_pos h]; simp [h]
    · rw [if_neg h, mget_some r x]
      simp only [List.map_cons, List.mem_cons]
      constructor
      · exact fun h2 => Or.inr h2
      · rintro (h2 | h2)
        · exact absurd h2.symm h
        · exact h2
theorem mlen_nodup {κ ε : Type} [DecidableEq κ] : ∀ (L : List (κ × ε)), mlen L = L.length ↔ (L.map Prod.fst).Nodup
  | [] => by simp [mlen]
  | p :: r => by
    have ih := mlen_nodup r
    have hle := mlen_le r
    have hs := mget_some r p.1
    unfold mlen
    rw [List.map_cons, List.nodup_cons, ← ih]
    by_cases h : (mget r p.1).isSome = true
    · rw [if_pos h]
      simp only [List.length_cons]
      constructor
      · intro e; omega
      · intro e; exact absurd (hs.1 h) e.1
    · rw [if_neg h]
      simp only [List.length_cons]
      constructor
      · intro e; exact ⟨fun h2 => h (hs.2 h2), by omega⟩
      · intro e; omega
theorem rng_of {x : Int} (h0 : -9223372036854775808 ≤ x) (h1 : x ≤ 9223372036854775807) : rng x = true := by
  unfold rng
  simp [h0, h1]
theorem cm_rng {x y w s h : Int} (hL : Lat w s h = true) : (rng (cm x y w s h).1 && rng (cm x y w s h).2) = true := by
  obtain ⟨w0, w1, h0, h1, s0, s1⟩ := Lat_iff.1 hL
  unfold cm
  have a := Int.emod_nonneg (x - y / h * s) (by omega : w ≠ 0)
  have b := Int.emod_lt_of_pos (x - y / h * s) (by omega : 0 < w)
  have c := Int.emod_nonneg y (by omega : h ≠ 0)
  have d := Int.emod_lt_of_pos y (by omega : 0 < h)
  rw [rng_of (by simp only; omega) (by simp only; omega), rng_of (by simp only; omega) (by simp only; omega)]
  rfl
theorem tiles_l {w s h : Int} (hL : Lat w s h = true) : ∀ (r : List Cell) (L : List ((Int × Int) × Bool)), Small r → impl_Lattice_tiles.l w s h r L = some ((r.map fun c => (key w s h c, true)).reverse ++ L)
  | [], L, _ => rfl
  | c :: r, L, hs => by
    have hb := hs c List.mem_cons_self
    unfold impl_Lattice_tiles.l
    rw [modulo_eq hL hb.1.1 hb.1.2 hb.2.1 hb.2.2]
    simp only [Option.bind_some]
    rw [if_pos (cm_rng hL), tiles_l hL r _ (fun d hd => hs d (List.mem_cons_of_mem _ hd))]
    simp [key]
theorem tiles_eq (l : List Cell) {w s h : Int} (hL : Lat w s h = true) (hs : Small l) : impl_Lattice_tiles.f w s h l = some (til l w s h) := by
  obtain ⟨w0, w1, h0, h1, s0, s1⟩ := Lat_iff.1 hL
  have hm := mul_small (q := w) (s := h) (by omega) (by omega) (by omega) (by omega)
  unfold impl_Lattice_tiles.f til
  rw [tiles_l hL l [] hs]
  simp only [Option.bind_some, List.append_nil]
  rw [w64 (by omega) (by omega)]
  by_cases hc : w * h = (l.length : Int)
  · rw [if_pos hc, if_pos hc]
    congr 1
    have h1 := tl_iff w s h l []
    have h2 := mlen_nodup (l.map fun c => (key w s h c, true)).reverse
    have e : ((l.map fun c => (key w s h c, true)).reverse.map Prod.fst).Nodup ↔ (l.map (key w s h)).Nodup := by
      rw [List.map_reverse, (List.reverse_perm _).nodup_iff, List.map_map]
      exact Iff.rfl
    rw [e, List.length_reverse, List.length_map] at h2
    rw [Bool.eq_iff_iff, decide_eq_true_iff, h1]
    simp only [List.not_mem_nil, not_false_eq_true, implies_true, and_true]
    rw [← h2]
    omega
  · rw [if_neg hc, if_neg hc]
end Go.Proofs.Ytpinaeegopdknaa.Pure
end
section
namespace Go.Proofs.Ytpinaeegopdknaa.Pure
open Go.RowKit Go.Proofs.Ytpinaeegopdknaa Go.Proofs.Ytpinaeegopdknaa.Q Go.Proofs.YtpinaeegopdknaaW.PrintWords
set_option linter.unusedVariables false
set_option linter.unusedSimpArgs false
theorem cm_in {x y w s h : Int} (hw : 0 < w) (hh : 0 < h) : (0 ≤ (cm x y w s h).1 ∧ (cm x y w s h).1 < w) ∧ 0 ≤ (cm x y w s h).2 ∧ (cm x y w s h).2 < h := by
  unfold cm
  exact ⟨⟨Int.emod_nonneg _ (by omega), Int.emod_lt_of_pos _ hw⟩, Int.emod_nonneg _ (by omega), Int.emod_lt_of_pos _ hh⟩
theorem rng_in {x : Int} (h0 : -1000000 ≤ x) (h1 : x ≤ 1000000) : rng x = true := by
  unfold rng
  simp
  omega
def ownL (w s h : Int) : List Cell → List ((Int × Int) × (Int × Int)) → List ((Int × Int) × (Int × Int))
  | [], L => L
  | c :: r, L => ownL w s h r ((key w s h c, (c.f0, c.f1)) :: L)
theorem own_eq {w s h : Int} (hL : Lat w s h = true) : ∀ (l : List Cell) (L : List ((Int × Int) × (Int × Int))), Small l → impl_PatchOf.o w s h l L = some (ownL w s h l L)
  | [], _, _ => rfl
  | c :: r, L, hs => by
    obtain ⟨w0, w1, h0, h1, s0, s1⟩ := Lat_iff.1 hL
    have hb := hs c List.mem_cons_self
    have hk := cm_in (x := c.f0) (y := c.f1) (w := w) (s := s) (h := h) (by omega) (by omega)
    rw [impl_PatchOf.o, modulo_eq hL hb.1.1 hb.1.2 hb.2.1 hb.2.2]
    simp only [Option.bind_some]
    rw [rng_in (by omega) (by omega), rng_in (by omega) (by omega), if_pos (show (true && true) = true from rfl)]
    exact own_eq hL r _ (fun d hd => hs d (List.mem_cons_of_mem _ hd))
def vecL (L : List ((Int × Int) × (Int × Int))) (p : Int × Int) (x y : Int) (v : Int × Int) : Int × Int := match mget L p with
  | some c => (wrap64 (x - c.1), wrap64 (y - c.2))
  | none => v
def vecS (w s h : Int) (p : Int × Int) (x y : Int) : List Cell → Int × Int → Int × Int
  | [], v => v
  | c :: r, v => vecS w s h p x y r (if key w s h c = p then (wrap64 (x - c.f0), wrap64 (y - c.f1)) else v)
theorem vec_eq (w s h : Int) (p : Int × Int) (x y : Int) (v : Int × Int) : ∀ (l : List Cell) (L : List ((Int × Int) × (Int × Int))), vecS w s h p x y l (vecL L p x y v) = vecL (ownL w s h l L) p x y v
  | [], _ => rfl
  | c :: r, L => by
    rw [vecS, ownL, ← vec_eq w s h p x y v r]
    congr 1
    unfold vecL
    rw [mget]
    by_cases e : key w s h c = p
    · rw [if_pos e, if_pos e]
    · rw [if_neg e, if_neg e]
theorem ownL_has (w s h : Int) (p : Int × Int) : ∀ (l : List Cell) (L : List ((Int × Int) × (Int × Int))), p ∈ l.map (key w s h) ∨ p ∈ L.map Prod.fst → p ∈ (ownL w s h l L).map Prod.fst
  | [], L, h => by
    rcases h with h | h
    · cases h
    · exact h
  | c :: r, L, h => by
    rw [ownL]
    refine ownL_has w s _ p r _ ?_
    rw [List.map_cons, List.mem_cons] at h
    rcases h with (h | h) | h
    · exact .inr (by rw [h]; simp)
    · exact .inl h
    · exact .inr (by simp [h])
theorem nodup_leP {α : Type} [DecidableEq α] : ∀ (a b : List α), a.Nodup → (∀ x ∈ a, x ∈ b) → a.length ≤ b.length
  | [], b, _, _ => Nat.zero_le _
  | x :: a, b, h, hs => by
    obtain ⟨h1, h2⟩ := List.nodup_cons.1 h
    have hx := hs x List.mem_cons_self
    have ih := nodup_leP a (b.erase x) h2 (fun y hy => (List.mem_erase_of_ne (fun e => h1 (by rw [← e]; exact hy))).2 (hs y (List.mem_cons_of_mem _ hy)))
    rw [List.length_erase_of_mem hx] at ih
    have : 0 < b.length := List.length_pos_of_mem hx
    rw [List.length_cons]
    omega
def boxP (W H : Nat) : List (Int × Int) := (List.range (W * H)).map fun i => (((i % W : Nat) : Int), ((i / W : Nat) : Int))
theorem boxP_mem {W H : Nat} {a b : Int} (a0 : 0 ≤ a) (a1 : a < W) (b0 : 0 ≤ b) (b1 : b < H) : (a, b) ∈ boxP W H := by
  obtain ⟨i, rfl⟩ := Int.eq_ofNat_of_zero_le a0
  obtain ⟨j, rfl⟩ := Int.eq_ofNat_of_zero_le b0
  have hi : i < W := by omega
  have hj : j < H := by omega
  refine List.mem_map.2 ⟨j * W + i, List.mem_range.2 ?_, ?_⟩
  · have h1 : j * W + W ≤ H * W := by
      rw [← Nat.succ_mul]
      exact Nat.mul_le_mul_right _ hj
    rw [Nat.mul_comm W H]
    omega
  · have e1 : (j * W + i) % W = i := by rw [Nat.mul_comm, Nat.mul_add_mod, Nat.mod_eq_of_lt hi]
    have e2 : (j * W + i) / W = j := by rw [Nat.mul_comm, Nat.mul_add_div (by omega), Nat.div_eq_of_lt hi, Nat.add_zero]
    rw [e1, e2]
theorem cover {l : List Cell} {w s h : Int} (hL : Lat w s h = true) (ht : til l w s h = true) (x y : Int) : cm x y w s h ∈ l.map (key w s h) := by
  obtain ⟨w0, w1, h0, h1, s0, s1⟩ := Lat_iff.1 hL
  unfold til at ht
  by_cases hc : w * h = (l.length : Int)
  case neg => rw [if_neg hc] at ht; cases ht
  rw [if_pos hc] at ht
  have hn := ((tl_iff w s h l []).1 ht).1
  by_cases hm : cm x y w s h ∈ l.map (key w s h)
  · exact hm
  · obtain ⟨W, rfl⟩ := Int.eq_ofNat_of_zero_le (show 0 ≤ w by omega)
    obtain ⟨H, rfl⟩ := Int.eq_ofNat_of_zero_le (show 0 ≤ h by omega)
    have hW : 0 < W := by omega
    have hH : 0 < H := by omega
    have hin : ∀ a b : Int, cm a b (W : Int) s (H : Int) ∈ boxP W H := fun a b => by
      have := cm_in (x := a) (y := b) (w := (W : Int)) (s := s) (h := (H : Int)) (by omega) (by omega)
      exact boxP_mem this.1.1 this.1.2 this.2.1 this.2.2
    have := nodup_leP (cm x y (W : Int) s (H : Int) :: l.map (key (W : Int) s (H : Int))) (boxP W H) (List.nodup_cons.2 ⟨hm, hn⟩) (fun z hz => by
      rcases List.mem_cons.1 hz with e | hz
      · rw [e]; exact hin x y
      · obtain ⟨c, _, rfl⟩ := List.mem_map.1 hz
        exact hin c.f0 c.f1)
    rw [List.length_cons, List.length_map] at this
    unfold boxP at this
    rw [List.length_map, List.length_range] at this
    have hc2 : W * H = l.length := by
      have : ((W * H : Nat) : Int) = (l.length : Int) := by rw [Int.natCast_mul]; exact hc
      omega
    omega
theorem vec_both {l : List Cell} {w s h : Int} (hL : Lat w s h = true) (ht : til l w s h = true) (x y : Int) :
    vecS w s h (cm x y w s h) x y l (0, 0) = (wrap64 (x - ((mget (ownL w s h l []) (cm x y w s h)).getD (0, 0)).1), wrap64 (y - ((mget (ownL w s h l []) (cm x y w s h)).getD (0, 0)).2)) := by
  have h1 := vec_eq w s h (cm x y w s h) x y (0, 0) l []
  have h2 : vecL [] (cm x y w s h) x y (0, 0) = (0, 0) := by unfold vecL; rw [mget]
  rw [h2] at h1
  rw [h1]
  have h3 := (mget_some (ownL w s h l []) (cm x y w s h)).2 (ownL_has w s h _ l [] (.inl (cover hL ht x y)))
  unfold vecL
  obtain ⟨c, hc⟩ := Option.isSome_iff_exists.1 h3
  rw [hc]
  rfl
theorem ixAt_app (p : Int × Int) (c : Cell) : ∀ (l : List Cell) (i : Nat), ixAt p i (l ++ [c]) = if 0 ≤ ixAt p i l then ixAt p i l else if c.f0 = p.1 ∧ c.f1 = p.2 then ((i + l.length : Nat) : Int) else -1
  | [], i => by
    have e0 : ixAt p i [] = -1 := rfl
    rw [List.nil_append, if_neg (show ¬ 0 ≤ ixAt p i [] by rw [e0]; omega)]
    rfl
  | d :: r, i => by
    rw [List.cons_append, ixAt, ixAt]
    by_cases h : d.f0 = p.1 ∧ d.f1 = p.2
    · rw [if_pos h, if_pos h, if_pos (by omega)]
    · rw [if_neg h, if_neg h, ixAt_app p c r (i + 1), List.length_cons, show i + 1 + r.length = i + (r.length + 1) by omega]
theorem ixAt_lt (p : Int × Int) : ∀ (l : List Cell) (i : Nat), ixAt p i l < ((i + l.length : Nat) : Int)
  | [], i => by rw [ixAt]; simp; omega
  | c :: r, i => by
    rw [ixAt]
    by_cases h : c.f0 = p.1 ∧ c.f1 = p.2
    · rw [if_pos h, List.length_cons]; omega
    · rw [if_neg h, List.length_cons]
      have := ixAt_lt p r (i + 1)
      omega
structure Inv (ls : List ((Int × Int) × Int)) (copies : List Cell) : Prop where
  len : ls.length = copies.length
  dist : mlen ls = ls.length
  look : ∀ q, mget ls q = if 0 ≤ ixAt q 0 copies then some (97 + ixAt q 0 copies % 26) else none
def cop (copies : List Cell) (q : Int × Int) : List Cell := if ixAt q 0 copies < 0 then copies ++ [cc q] else copies
theorem Inv.none : Inv [] [] := ⟨rfl, rfl, fun q => by rw [mget, ixAt, if_neg (by omega)]⟩
theorem Inv.step {ls : List ((Int × Int) × Int)} {copies : List Cell} (h : Inv ls copies) (q : Int × Int) : Inv (impl_PatchOf.ls ls q) (cop copies q) ∧ 0 ≤ ixAt q 0 (cop copies q) := by
  have hq := h.look q
  unfold impl_PatchOf.ls cop
  by_cases hi : 0 ≤ ixAt q 0 copies
  · rw [if_pos hi] at hq
    rw [if_neg (show ¬ ixAt q 0 copies < 0 by omega), hq, if_pos (show (some (97 + ixAt q 0 copies % 26)).isSome = true from rfl)]
    exact ⟨h, hi⟩
  · rw [if_neg hi] at hq
    rw [if_pos (show ixAt q 0 copies < 0 by omega), hq, if_neg (by simp)]
    have hc : (cc q).f0 = q.1 ∧ (cc q).f1 = q.2 := ⟨rfl, rfl⟩
    have hnew : ixAt q 0 (copies ++ [cc q]) = (copies.length : Int) := by rw [ixAt_app, if_neg hi, if_pos hc]; simp
    refine ⟨⟨by simp [h.len], ?_, fun p => ?_⟩, by rw [hnew]; omega⟩
    · rw [mlen, hq, h.dist]
      simp
    · rw [mget]
      by_cases e : q = p
      · subst e
        rw [if_pos rfl, hnew, if_pos (by omega), h.dist, h.len]
      · rw [if_neg e, h.look p, ixAt_app]
        have hne : ¬ ((cc q).f0 = p.1 ∧ (cc q).f1 = p.2) := fun c => e (Prod.ext c.1 c.2)
        by_cases hp : 0 ≤ ixAt p 0 copies
        · rw [if_pos hp, if_pos hp, if_pos hp]
        · rw [if_neg hp, if_neg hp, if_neg hne, if_neg (by omega)]
def rowS (l : List Cell) (w s h : Int) (y : Nat) : Nat → Nat → List Cell → List Int → List Cell × List Int
  | 0, _, copies, out => (copies, out)
  | n + 1, x, copies, out => rowS l w s h y n (x + 1) (cop copies (vecS w s h (cm x y w s h) x y l (0, 0))) (out ++ [97 + ixAt (vecS w s h (cm x y w s h) x y l (0, 0)) 0 (cop copies (vecS w s h (cm x y w s h) x y l (0, 0))) % 26])
def rowsS (l : List Cell) (w s h : Int) (wide : Nat) : Nat → Nat → List Cell → List Int → List Int
  | 0, _, _, out => out
  | n + 1, y, copies, out => rowsS l w s h wide n (y + 1) (rowS l w s h y wide 0 copies (if 0 < y then out ++ [47] else out)).1 (rowS l w s h y wide 0 copies (if 0 < y then out ++ [47] else out)).2
theorem cop_len (copies : List Cell) (q : Int × Int) : (cop copies q).length ≤ copies.length + 1 := by
  unfold cop
  split
  · simp
  · omega
theorem rowS_len (l : List Cell) (w s h : Int) (y : Nat) : ∀ (n x : Nat) (copies : List Cell) (out : List Int), (rowS l w s h y n x copies out).2.length = out.length + n ∧ (rowS l w s h y n x copies out).1.length ≤ copies.length + n
  | 0, _, _, _ => ⟨rfl, Nat.le_refl _⟩
  | n + 1, x, copies, out => by
    rw [rowS]
    have h1 := rowS_len l w s h y n (x + 1) (cop copies (vecS w s h (cm x y w s h) x y l (0, 0))) (out ++ [97 + ixAt (vecS w s h (cm x y w s h) x y l (0, 0)) 0 (cop copies (vecS w s h (cm x y w s h) x y l (0, 0))) % 26])
    have h2 := cop_len copies (vecS w s h (cm x y w s h) x y l (0, 0))
    rw [List.length_append, List.length_singleton] at h1
    exact ⟨by omega, by omega⟩
theorem row_eq {l : List Cell} {w s h : Int} (hL : Lat w s h = true) (ht : til l w s h = true) {y : Nat} (hy : y ≤ 1000) : ∀ (n x : Nat) (ls : List ((Int × Int) × Int)) (copies : List Cell) (out : List Int), Inv ls copies → x + n ≤ 100 → out.length + n < 1000 → copies.length + n < 1000 →
    ∃ ls', impl_PatchOf.row w s h (ownL w s h l []) y n x ls out = some (ls', (rowS l w s h y n x copies out).2) ∧ Inv ls' (rowS l w s h y n x copies out).1
  | 0, x, ls, copies, out, hI, _, _, _ => ⟨ls, rfl, hI⟩
  | n + 1, x, ls, copies, out, hI, hx, ho, hc => by
    obtain ⟨w0, w1, h0, h1, s0, s1⟩ := Lat_iff.1 hL
    have hk := cm_in (x := (x : Int)) (y := (y : Int)) (w := w) (s := s) (h := h) (by omega) (by omega)
    rw [impl_PatchOf.row, rowS, modulo_eq hL (by omega) (by omega) (by omega) (by omega)]
    simp only [Option.bind_some]
    rw [if_pos ⟨by rw [rng_in (by omega) (by omega), rng_in (by omega) (by omega)]; rfl, by omega, by rw [hI.len]; omega⟩]
    rw [← vec_both hL ht (x : Int) (y : Int)]
    obtain ⟨i1, i2⟩ := hI.step (vecS w s h (cm x y w s h) x y l (0, 0))
    have hg : (mget (impl_PatchOf.ls ls (vecS w s h (cm x y w s h) x y l (0, 0))) (vecS w s h (cm x y w s h) x y l (0, 0))).getD 0 = 97 + ixAt (vecS w s h (cm x y w s h) x y l (0, 0)) 0 (cop copies (vecS w s h (cm x y w s h) x y l (0, 0))) % 26 := by
      rw [i1.look, if_pos i2]
      rfl
    rw [hg]
    exact row_eq hL ht hy n (x + 1) _ _ _ i1 (by omega) (by simp; omega) (by have := cop_len copies (vecS w s h (cm x y w s h) x y l (0, 0)); omega)
theorem rows_eq {l : List Cell} {w s h : Int} (hL : Lat w s h = true) (ht : til l w s h = true) {wide : Nat} (hw : wide ≤ 20) : ∀ (n y : Nat) (ls : List ((Int × Int) × Int)) (copies : List Cell) (out : List Int), Inv ls copies → y + n ≤ 20 → out.length ≤ 21 * y → copies.length ≤ 20 * y →
    impl_PatchOf.rows w s h (ownL w s h l []) wide n y ls out = some (rowsS l w s h wide n y copies out)
  | 0, _, _, _, _, _, _, _, _ => rfl
  | n + 1, y, ls, copies, out, hI, hy, ho, hc => by
    rw [impl_PatchOf.rows, rowsS, if_pos (by omega)]
    have hol : (if 0 < y then out ++ [47] else out).length ≤ 21 * y + 1 := by
      split
      · simp; omega
      · omega
    obtain ⟨ls', e1, e2⟩ := row_eq hL ht (show y ≤ 1000 by omega) wide 0 ls copies (if 0 < y then out ++ [47] else out) hI (by omega) (by omega) (by omega)
    rw [e1]
    simp only [Option.bind_some]
    have hr := rowS_len l w s h y wide 0 copies (if 0 < y then out ++ [47] else out)
    exact rows_eq hL ht hw n (y + 1) ls' _ _ e2 (by omega) (by omega) (by omega)
end Go.Proofs.Ytpinaeegopdknaa.Pure
end
section
namespace Go.Proofs.Ytpinaeegopdknaa.Pure
open Go.RowKit Go.Proofs.Ytpinaeegopdknaa Go.Proofs.Ytpinaeegopdknaa.Q Go.Proofs.YtpinaeegopdknaaW.PrintWords
set_option linter.unusedVariables false
set_option linter.unusedSimpArgs false
theorem letter_eq {i : Int} (h0 : 0 ≤ i) (h1 : i ≤ 1000000) : wrap64 (97 + Int.tmod i 26) % 256 = 97 + i % 26 := by
  rw [Int.tmod_eq_emod_of_nonneg h0]
  have : 0 ≤ i % 26 ∧ i % 26 < 26 := ⟨Int.emod_nonneg _ (by omega), Int.emod_lt_of_pos _ (by omega)⟩
  rw [w64 (by omega) (by omega)]
  omega
theorem vecS_loop {l : List Cell} {w s h : Int} (hL : Lat w s h = true) (hs : Small l) (hl : l.length ≤ 1048576) (a2 a3 : Int) (out : List Int) (copies : List Cell) {x y : Nat} (hx : x ≤ 1000) (hy : y ≤ 1000) {r : ByteArray × Int}
    (hfin : ∀ v : Int × Int, v = vecS w s h (cm x y w s h) x y l (0, 0) → Evt (fun k => spec_PatchOf.l2 k l a2 a3 out copies (y : Int) (x : Int) (l.length : Int) w s h (x : Int) (y : Int) v.1 v.2) r) :
    Evt (fun k => spec_PatchOf.l2 k l a2 a3 out copies (y : Int) (x : Int) 0 w s h (x : Int) (y : Int) 0 0) r := by
  have key := Evt.upS (g := fun k i (v : Int × Int) => spec_PatchOf.l2 k l a2 a3 out copies (y : Int) (x : Int) (i : Int) w s h (x : Int) (y : Int) v.1 v.2) (R := fun _ _ => r) (P := fun i v => vecS w s h (cm x y w s h) x y (l.drop i) v = vecS w s h (cm x y w s h) x y l (0, 0)) (n := l.length) ?_ ?_ 0 (0, 0) (Nat.zero_le _) rfl
  · exact key
  · rintro v hv
    rw [List.drop_length, vecS] at hv
    exact hfin v hv
  · rintro i v hi hv ih
    have hb := hs (l.getD i z43) (by rw [List.getD_eq_getElem?_getD, List.getElem?_eq_getElem hi]; exact List.getElem_mem hi)
    refine Evt.step (fun k => rfl) ?_
    simp only [spec_PatchOf.l2, rd_getD, l24Cell_eq hL hb.1.1 hb.1.2 hb.2.1 hb.2.2, l24Cell_eq (x := (x : Int)) (y := (y : Int)) hL (by omega) (by omega) (by omega) (by omega), Option.bind_some]
    rw [drop_getD l i z43 hi, vecS] at hv
    refine Evt.ite_pos (by omega) (Evt.ite_pos (by omega) ?_)
    rw [wrap_succ hi (by omega)]
    by_cases e : key w s h (l.getD i z43) = cm x y w s h
    · rw [if_pos e] at hv
      have e2 : cm (l.getD i z43).f0 (l.getD i z43).f1 w s h = cm x y w s h := e
      refine Evt.ite_pos (by rw [e2]; simp) ?_
      exact ih (wrap64 ((x : Int) - (l.getD i z43).f0), wrap64 ((y : Int) - (l.getD i z43).f1)) hv
    · rw [if_neg e] at hv
      have e2 : ¬ cm (l.getD i z43).f0 (l.getD i z43).f1 w s h = cm x y w s h := e
      refine Evt.ite_neg (fun c => e2 ?_) (ih v hv)
      simp only [Bool.and_eq_true, beq_iff_eq] at c
      exact Prod.ext c.1 c.2
theorem rows_spec {l : List Cell} {w s h : Int} (hL : Lat w s h = true) (hs : Small l) (hl : l.length ≤ 1048576) {wide high : Nat} (hw : wide ≤ 20) (hh : high ≤ 20) : ∀ (n y : Nat) (copies : List Cell) (out : List Int), y + n = high → out.length ≤ 21 * y → copies.length ≤ 20 * y →
    Evt (fun k => spec_PatchOf.l0 k l (wide : Int) (high : Int) out copies (y : Int) w s h) (strOfNums (rowsS l w s h wide n y copies out), 0)
  | 0, y, copies, out, hn, ho, hc => by
    refine Evt.step (fun k => rfl) ?_
    simp only [spec_PatchOf.l0]
    exact Evt.ite_neg (by omega) Evt.pure
  | n + 1, y, copies, out, hn, ho, hc => by
    rw [rowsS]
    have row : ∀ (m x : Nat) (cs : List Cell) (os : List Int), x + m = wide → os.length ≤ 21 * y + 1 + x → cs.length ≤ 20 * y + x → Evt (fun k => spec_PatchOf.l1 k l (wide : Int) (high : Int) os cs (y : Int) (x : Int) w s h) (strOfNums (rowsS l w s h wide n (y + 1) (rowS l w s h y m x cs os).1 (rowS l w s h y m x cs os).2), 0) := by
      intro m
      induction m with
      | zero =>
        intro x cs os hm ho hc
        refine Evt.step (fun k => rfl) ?_
        simp only [spec_PatchOf.l1]
        refine Evt.ite_neg (by omega) ?_
        rw [rowS, show wrap64 ((y : Int) + 1) = ((y + 1 : Nat) : Int) by unfold wrap64; omega]
        exact rows_spec hL hs hl hw hh n (y + 1) cs os (by omega) (by omega) (by omega)
      | succ m ih =>
        intro x cs os hm ho hc
        rw [rowS]
        refine Evt.step (fun k => rfl) ?_
        simp only [spec_PatchOf.l1]
        refine Evt.ite_pos (by omega) (vecS_loop hL hs hl _ _ os cs (by omega) (by omega) ?_)
        rintro v hv
        rw [← hv]
        have hlt := ixAt_lt v cs 0
        have hcl := cop_len cs v
        refine Evt.step (fun k => rfl) ?_
        simp only [spec_PatchOf.l2]
        refine Evt.ite_neg (by omega) ((l02Index_eq cs v.1 v.2 (by omega)).bind ?_)
        have e : ∀ t : List Cell, ixAt (v.1, v.2) 0 t = ixAt v 0 t := fun t => rfl
        rw [e]
        by_cases hi : ixAt v 0 cs < 0
        · have ec : cop cs v = cs ++ [cc v] := by unfold cop; rw [if_pos hi]
          have hin : 0 ≤ ixAt v 0 (cs ++ [cc v]) := (ixAt_mem v _ 0).2 (by simp)
          have hlt2 := ixAt_lt v (cs ++ [cc v]) 0
          rw [List.length_append, List.length_singleton] at hlt2
          refine Evt.ite_pos hi (Evt.ite_pos (by omega) ?_)
          simp only [Option.bind_some]
          have e3 : (⟨v.1, v.2⟩ : Cell) = cc v := rfl
          rw [e3]
          refine (l02Index_eq (cs ++ [cc v]) v.1 v.2 (by simp; omega)).bind (Evt.ite_pos (by omega) ?_)
          rw [e, letter_eq hin (by omega), ec, show wrap64 ((x : Int) + 1) = ((x + 1 : Nat) : Int) by unfold wrap64; omega]
          exact ih (x + 1) _ _ (by omega) (by simp; omega) (by simp; omega)
        · have ec : cop cs v = cs := by unfold cop; rw [if_neg hi]
          refine Evt.ite_neg hi ((l02Index_eq cs v.1 v.2 (by omega)).bind (Evt.ite_pos (by omega) ?_))
          rw [e, letter_eq (by omega) (by omega), ec, show wrap64 ((x : Int) + 1) = ((x + 1 : Nat) : Int) by unfold wrap64; omega]
          exact ih (x + 1) _ _ (by omega) (by simp; omega) (by omega)
    refine Evt.step (fun k => rfl) ?_
    simp only [spec_PatchOf.l0]
    refine Evt.ite_pos (by omega) ?_
    by_cases hy : 0 < y
    · rw [if_pos hy]
      refine Evt.ite_pos (by omega) (Evt.ite_pos (by omega) (Evt.step (fun k => rfl) ?_))
      simp only [spec_PatchOf.j2]
      exact row wide 0 copies (out ++ [47]) (by omega) (by simp; omega) (by omega)
    · rw [if_neg hy]
      refine Evt.ite_neg (by omega) (Evt.step (fun k => rfl) ?_)
      simp only [spec_PatchOf.j2]
      exact row wide 0 copies out (by omega) (by omega) (by omega)
def Pch (l : List Cell) (w s h a2 a3 : Int) (r : ByteArray × Int) : Prop := r.2 = 0 → ∃ W H : Nat, a2 = (W : Int) ∧ a3 = (H : Int) ∧ (1 ≤ W ∧ W ≤ 20) ∧ (1 ≤ H ∧ H ≤ 20) ∧ r.1 = strOfNums (rowsS l w s h W H 0 [] [])
theorem Pch.no {l : List Cell} {w s h a2 a3 : Int} {b : ByteArray} {c : Int} (h0 : c ≠ 0) : Pch l w s h a2 a3 (b, c) := fun e => absurd e h0
theorem patch_both {l : List Cell} (hl : l.length ≤ 1048576) (w s h a2 a3 : Int) : ∃ r : ByteArray × Int, Evt (fun k => spec_PatchOf.f k l w s h a2 a3) r ∧ Evt (fun k => impl_PatchOf.f k l w s h a2 a3) r ∧ Pch l w s h a2 a3 r := by
  unfold spec_PatchOf.f impl_PatchOf.f
  cases hS : Sh l with
  | false =>
    have h1 := spec_IsShape_eq l (by omega)
    have h2 := impl_IsShape_eq l (by omega)
    rw [hS] at h1 h2
    exact ⟨_, h1.bind (Evt.ite_neg (by simp) Evt.pure), h2.bind (Evt.ite_neg (by simp) Evt.pure), Pch.no (by omega)⟩
  | true =>
    have h1 := spec_IsShape_eq l (by omega)
    have h2 := impl_IsShape_eq l (by omega)
    rw [hS] at h1 h2
    have hs := Sh_small hS
    suffices hh : ∃ r : ByteArray × Int, Evt (fun k => (spec_IsLattice.f w s h).bind fun t138 => (if t138 = true then ((spec_l01In.f a2 1 20).bind fun t139 => (if t139 = true then ((spec_l01In.f a3 1 20).bind fun t140 => (spec_PatchOf.j0 k l a2 a3 (!t140) w s h)) else (spec_PatchOf.j0 k l a2 a3 true w s h))) else (spec_PatchOf.j0 k l a2 a3 true w s h))) r ∧
        Evt (fun _ => (impl_IsLattice.f w s h).bind fun q => if q = true then (impl_within.f a2 1 20).bind fun u => if u = true then (impl_within.f a3 1 20).bind fun v => if v = true then
    (impl_Lattice_tiles.f w s h l).bind fun t => if t = true then (if 0 ≤ a2 ∧ a2 ≤ 20 ∧ 0 ≤ a3 ∧ a3 ≤ 20 then (impl_PatchOf.o w s h l []).bind fun own => (impl_PatchOf.rows w s h own a2.toNat a3.toNat 0 [] []).bind fun out => some (strOfNums out, 0) else none)
      else some ((⟨#[]⟩ : ByteArray), 5) else some ((⟨#[]⟩ : ByteArray), 2) else some ((⟨#[]⟩ : ByteArray), 2) else some ((⟨#[]⟩ : ByteArray), 2)) r ∧ Pch l w s h a2 a3 r by
      obtain ⟨r, r1, r2, r3⟩ := hh
      exact ⟨r, h1.bind (Evt.ite_pos rfl r1), h2.bind (Evt.ite_pos rfl r2), r3⟩
    have bad : Evt (fun k => spec_PatchOf.j0 k l a2 a3 true w s h) ((⟨#[]⟩ : ByteArray), 2) := by
      refine Evt.step (fun k => rfl) ?_
      simp only [spec_PatchOf.j0]
      exact Evt.ite_pos trivial Evt.pure
    rw [isLattice_spec, isLattice_impl, in_eq, in_eq, within_eq, within_eq]
    simp only [Option.bind_some]
    cases hL : Lat w s h with
    | false => exact ⟨_, Evt.ite_neg (by simp) bad, Evt.ite_neg (by simp) Evt.pure, Pch.no (by omega)⟩
    | true =>
      by_cases c2 : 1 ≤ a2 ∧ a2 ≤ 20
      case neg => exact ⟨_, Evt.ite_pos rfl (Evt.ite_neg (by simpa using c2) bad), Evt.ite_pos rfl (Evt.ite_neg (by simpa using c2) Evt.pure), Pch.no (by omega)⟩
      by_cases c3 : 1 ≤ a3 ∧ a3 ≤ 20
      case neg =>
        refine ⟨_, Evt.ite_pos rfl (Evt.ite_pos (by simpa using c2) ?_), Evt.ite_pos rfl (Evt.ite_pos (by simpa using c2) (Evt.ite_neg (by simpa using c3) Evt.pure)), Pch.no (by omega)⟩
        rw [decide_eq_false c3]
        exact bad
      obtain ⟨W, rfl⟩ := Int.eq_ofNat_of_zero_le (show 0 ≤ a2 by omega)
      obtain ⟨H, rfl⟩ := Int.eq_ofNat_of_zero_le (show 0 ≤ a3 by omega)
      have ht1 := l24Tiles_eq l hL hs (by have := (Sh_len hS).2; omega)
      have ht2 := tiles_eq l hL hs
      cases hT : til l w s h with
      | false =>
        rw [hT] at ht1 ht2
        refine ⟨((⟨#[]⟩ : ByteArray), 5), Evt.ite_pos rfl (Evt.ite_pos (by simpa using c2) ?_), Evt.ite_pos rfl (Evt.ite_pos (by simpa using c2) (Evt.ite_pos (by simpa using c3) ?_)), Pch.no (by omega)⟩
        · rw [decide_eq_true c3]
          refine Evt.step (fun k => rfl) ?_
          simp only [spec_PatchOf.j0]
          exact Evt.ite_neg (by simp) (ht1.bind (Evt.ite_neg (by simp) Evt.pure))
        · rw [ht2]
          simp only [Option.bind_some]
          exact Evt.ite_neg (by simp) Evt.pure
      | true =>
        rw [hT] at ht1 ht2
        refine ⟨(strOfNums (rowsS l w s h W H 0 [] []), 0), Evt.ite_pos rfl (Evt.ite_pos (by simpa using c2) ?_), Evt.ite_pos rfl (Evt.ite_pos (by simpa using c2) (Evt.ite_pos (by simpa using c3) ?_)), fun _ => ⟨W, H, rfl, rfl, by omega, by omega, rfl⟩⟩
        · rw [decide_eq_true c3]
          refine Evt.step (fun k => rfl) ?_
          simp only [spec_PatchOf.j0]
          exact Evt.ite_neg (by simp) (ht1.bind (Evt.ite_pos (by first | rfl | trivial) (rows_spec hL hs hl (by omega) (by omega) H 0 [] [] (by omega) (by simp) (by simp))))
        · rw [ht2]
          simp only [Option.bind_some]
          refine Evt.ite_pos (by first | rfl | trivial) (Evt.ite_pos ⟨by omega, by omega, by omega, by omega⟩ ?_)
          rw [own_eq hL l [] hs]
          simp only [Option.bind_some, Int.toNat_natCast]
          rw [rows_eq hL hT (by omega) H 0 [] [] [] Inv.none (by omega) (by simp) (by simp)]
          exact Evt.pure
end Go.Proofs.Ytpinaeegopdknaa.Pure
end
section
namespace Go.Proofs.Ytpinaeegopdknaa.Pure
open Go.RowKit Go.Proofs.Ytpinaeegopdknaa Go.Proofs.Ytpinaeegopdknaa.Q Go.Proofs.YtpinaeegopdknaaW.PrintWords
set_option linter.unusedVariables false
set_option linter.unusedSimpArgs false
abbrev LCell := S47
theorem rdL (l : List LCell) (i : Nat) (h : i < l.length) : rd_T47 l (i : Int) = l[i] := by
  simp [rd_T47, List.getD_eq_getElem?_getD, List.getElem?_eq_getElem h]
def toC (c : LCell) : Cell := ⟨c.f0, c.f1⟩
def toCs (l : List LCell) : List Cell := l.map toC
theorem toCs_len (l : List LCell) : (toCs l).length = l.length := by simp [toCs]
theorem szCellS_eq (l : List LCell) (h : l.length ≤ maxLen) : laws_szCellS.f l 1048576 = some (if l.length ≤ 1048576 then 1048576 - (l.length : Int) else -1) := by
  unfold maxLen at h
  unfold laws_szCellS.f
  rw [w64 (by omega) (by omega)]
  by_cases hl : l.length ≤ 1048576
  · rw [if_neg (by omega), if_pos hl]
  · rw [if_pos (by omega), if_neg hl]
theorem toCellS_loop (l : List LCell) (hl : l.length ≤ 1048576) : ∀ (i : Nat) (acc : List Cell), i ≤ l.length → (acc.length = l.length ∧ acc.take i = (toCs l).take i) → Evt (fun k => laws_toCellS.l0 k l acc (i : Int)) (toCs l) := by
  refine Evt.upS (R := fun _ _ => toCs l) ?_ ?_
  · rintro acc ⟨h1, h2⟩
    refine Evt.step (fun k => rfl) ?_
    simp only [laws_toCellS.l0]
    refine Evt.ite_neg (by omega) ?_
    rw [List.take_of_length_le (by omega), List.take_of_length_le (by rw [toCs_len]; omega)] at h2
    rw [h2]
    exact Evt.pure
  · rintro i acc hi ⟨h1, h2⟩ ih
    refine Evt.step (fun k => rfl) ?_
    simp only [laws_toCellS.l0, laws_toCell.f, Option.bind_some]
    refine Evt.ite_pos (by omega) (Evt.ite_pos (by omega) (Evt.ite_pos (by omega) ?_))
    rw [wrap_succ hi (by omega), Int.toNat_natCast]
    refine ih _ ⟨by simpa using h1, ?_⟩
    rw [rdL l i hi]
    apply List.ext_getElem?
    intro j
    have h3 := congrArg (fun z => z[j]?) h2
    simp only [List.getElem?_take] at h3 ⊢
    by_cases hj : j < i
    · rw [if_pos (by omega)] at h3 ⊢
      rw [if_pos (by omega)] at h3 ⊢
      rw [List.getElem?_set_ne (by omega)]
      exact h3
    · by_cases hj2 : j = i
      · subst hj2
        rw [if_pos (by omega), if_pos (by omega), List.getElem?_set_self (by omega)]
        simp [toCs, toC, List.getElem?_eq_getElem hi]
      · rw [if_neg (by omega), if_neg (by omega)]
theorem toCellS_eq (l : List LCell) (hl : l.length ≤ 1048576) : Evt (fun k => laws_toCellS.f k l) (toCs l) := by
  unfold laws_toCellS.f
  refine Evt.ite_pos (by omega) (Evt.ite_pos (by omega) ?_)
  exact toCellS_loop l hl 0 _ (Nat.zero_le _) ⟨by simp, by simp⟩
theorem eqCellS_refl (l : List Cell) (hl : l.length ≤ 9223372036854775807) : Evt (fun k => laws_eqCellS.f k l l) true := by
  unfold laws_eqCellS.f
  refine Evt.ite_pos rfl ?_
  refine Evt.up (g := fun k i => laws_eqCellS.l0 k l l (i : Int)) (R := fun _ => true) (n := l.length) ?_ ?_ 0 (Nat.zero_le _)
  · refine Evt.step (fun k => rfl) ?_
    simp only [laws_eqCellS.l0]
    exact Evt.ite_neg (by omega) Evt.pure
  · intro i hi ih
    refine Evt.step (fun k => rfl) ?_
    simp only [laws_eqCellS.l0, laws_eqCell.f, if_true, Option.bind_some]
    refine Evt.ite_pos (by omega) (Evt.ite_pos (by omega) (Evt.ite_pos (by omega) ?_))
    rw [wrap_succ hi hl]
    exact ih
end Go.Proofs.Ytpinaeegopdknaa.Pure
end
section
namespace Go.Proofs.Ytpinaeegopdknaa.Pure
open Go.RowKit Go.Proofs.Ytpinaeegopdknaa Go.Proofs.Ytpinaeegopdknaa.Q Go.Proofs.Ytpinaeegopdknaa.UFnExactPatchOf Go.Proofs.YtpinaeegopdknaaW.PrintWords
set_option linter.unusedVariables false
set_option linter.unusedSimpArgs false
theorem FnExactPatchOf : laws_FnExactPatchOf_Pure := by
  intro l w s h a2 a3 hl _ _ _ _ _
  apply Evt.out
  unfold laws_FnExactPatchOf.f
  rw [szCellS_eq l hl.1]
  simp only [Option.bind_some]
  by_cases hb : l.length ≤ 1048576
  · rw [if_pos hb]
    refine Evt.ite_neg (by omega) ?_
    obtain ⟨r, h1, h2, _⟩ := patch_both (l := toCs l) (by rw [toCs_len]; exact hb) w s h a2 a3
    refine (toCellS_eq l hb).bind ?_
    simp only [laws_toLattice.f, Option.bind_some]
    refine h1.bind ((toCellS_eq l hb).bind (h2.bind (Evt.ite_pos rfl ?_)))
    refine Evt.step (fun k => rfl) ?_
    simp only [laws_FnExactPatchOf.j0]
    refine Evt.ite_neg (by simp) ((toCellS_eq l hb).bind ((eqCellS_refl (toCs l) (by rw [toCs_len]; omega)).bind ?_))
    exact Evt.ite_pos rfl Evt.pure
  · rw [if_neg hb]
    exact Evt.ite_pos (by omega) Evt.pure
end Go.Proofs.Ytpinaeegopdknaa.Pure
end
