/- The pure side of the law FnPatches: parts of this session, put into one text by merge.py. -/
import Derived.Test.YtpinaeegopdknaaQ0
import Derived.Test.YtpinaeegopdknaaOpn
import Derived.Test.YtpinaeegopdknaaQ2
import Derived.Test.YtpinaeegopdknaaQ8
import Derived.Test.YtpinaeegopdknaaQ3
import Derived.Test.YtpinaeegopdknaaQ5
import Derived.Test.YtpinaeegopdknaaQ4
import Derived.Test.YtpinaeegopdknaaQ11
import Derived.Test.YtpinaeegopdknaaQ9
import Derived.Test.YtpinaeegopdknaaQ10
import Derived.Test.YtpinaeegopdknaaQ6
import Derived.Test.YtpinaeegopdknaaQGimplLatticetiles
import Derived.Test.YtpinaeegopdknaaQGimplPatchOf
import Derived.Test.YtpinaeegopdknaaQ7
import Derived.Test.YtpinaeegopdknaaQ15
import Derived.Test.YtpinaeegopdknaaQ16
import Derived.Test.YtpinaeegopdknaaQ17
import Derived.Test.YtpinaeegopdknaaQ18
import Derived.Test.YtpinaeegopdknaaQ19
import Derived.Test.YtpinaeegopdknaaQGspecl01From
import Derived.Test.YtpinaeegopdknaaQGspecl01Next
import Derived.Test.YtpinaeegopdknaaQ20
import Derived.Test.YtpinaeegopdknaaQ21
import Derived.Test.YtpinaeegopdknaaQ22
import Derived.Test.YtpinaeegopdknaaQ23
import Derived.Test.YtpinaeegopdknaaQ14
import Derived.Test.YtpinaeegopdknaaQ24
import Derived.Test.YtpinaeegopdknaaQ25
import Derived.Test.YtpinaeegopdknaaUFnPatches
section
namespace Go.Proofs.Ytpinaeegopdknaa.Pure
open Go.RowKit
set_option linter.unusedVariables false
set_option linter.unusedSimpArgs false
def Evt {α : Type} (g : Nat → Option α) (r : α) : Prop := ∃ K, ∀ k, K ≤ k → g k = some r
theorem Evt.out {α : Type} {g : Nat → Option α} {r : α} (h : Evt g r) : ∃ k, g k = some r := by
  obtain ⟨K, h⟩ := h
  exact ⟨K, h K (Nat.le_refl _)⟩
theorem Evt.pure {α : Type} {r : α} : Evt (fun _ => some r) r := ⟨0, fun _ _ => rfl⟩
theorem Evt.const {α : Type} {o : Option α} {r : α} (h : o = some r) : Evt (fun _ => o) r := ⟨0, fun _ _ => h⟩
theorem Evt.of_eq {α : Type} {g g' : Nat → Option α} {r : α} (e : ∀ k, g' k = g k) (h : Evt g r) : Evt g' r := by
  obtain ⟨K, h⟩ := h
  exact ⟨K, fun k hk => (e k).trans (h k hk)⟩
theorem Evt.bind {α β : Type} {g : Nat → Option α} {f : Nat → α → Option β} {a : α} {r : β} (h : Evt g a) (h2 : Evt (fun k => f k a) r) : Evt (fun k => (g k).bind (f k)) r := by
  obtain ⟨K, h⟩ := h
  obtain ⟨K2, h2⟩ := h2
  refine ⟨K + K2, fun k hk => ?_⟩
  show (g k).bind (f k) = some r
  rw [h k (by omega)]
  exact h2 k (by omega)
theorem Evt.step {α : Type} {g h : Nat → Option α} {r : α} (e : ∀ k, g (k + 1) = h k) (hh : Evt h r) : Evt g r := by
  obtain ⟨K, hh⟩ := hh
  refine ⟨K + 1, fun k hk => ?_⟩
  obtain ⟨m, rfl⟩ : ∃ m, k = m + 1 := ⟨k - 1, by omega⟩
  rw [e m]
  exact hh m (by omega)
theorem Evt.ite_pos {α : Type} {c : Prop} [Decidable c] {g h : Nat → Option α} {r : α} (hc : c) (hg : Evt g r) : Evt (fun k => if c then g k else h k) r := Evt.of_eq (fun k => if_pos hc) hg
theorem Evt.ite_neg {α : Type} {c : Prop} [Decidable c] {g h : Nat → Option α} {r : α} (hc : ¬ c) (hg : Evt h r) : Evt (fun k => if c then g k else h k) r := Evt.of_eq (fun k => if_neg hc) hg
theorem Evt.up {α : Type} {g : Nat → Nat → Option α} {R : Nat → α} {n : Nat} (hend : Evt (fun k => g k n) (R n)) (hstep : ∀ i, i < n → Evt (fun k => g k (i + 1)) (R (i + 1)) → Evt (fun k => g k i) (R i)) : ∀ i, i ≤ n → Evt (fun k => g k i) (R i) := by
  intro i hi
  obtain ⟨d, hd⟩ : ∃ d, n = i + d := ⟨n - i, by omega⟩
  induction d generalizing i with
  | zero => have e : i = n := by omega
            rw [e]; exact hend
  | succ d ih => exact hstep i (by omega) (ih (i + 1) (by omega) (by omega))
theorem Evt.upS {α σ : Type} {g : Nat → Nat → σ → Option α} {R : Nat → σ → α} {P : Nat → σ → Prop} {n : Nat} (hend : ∀ s, P n s → Evt (fun k => g k n s) (R n s))
    (hstep : ∀ i s, i < n → P i s → (∀ s', P (i + 1) s' → Evt (fun k => g k (i + 1) s') (R (i + 1) s')) → Evt (fun k => g k i s) (R i s)) : ∀ i s, i ≤ n → P i s → Evt (fun k => g k i s) (R i s) := by
  intro i s hi hp
  obtain ⟨d, hd⟩ : ∃ d, n = i + d := ⟨n - i, by omega⟩
  induction d generalizing i s with
  | zero => have e : i = n := by omega
            rw [e] at hp ⊢; exact hend s hp
  | succ d ih => exact hstep i s (by omega) hp (fun s' hp' => ih (i + 1) s' (by omega) hp' (by omega))
def Both {α : Type} (g h : Nat → Option α) : Prop := ∃ r, Evt g r ∧ Evt h r
theorem Both.pure {α : Type} {r : α} : Both (fun _ => some r) (fun _ => some r) := ⟨r, Evt.pure, Evt.pure⟩
theorem wrap_succ {i n : Nat} (h : i < n) (hn : n ≤ 9223372036854775807) : wrap64 ((i : Int) + 1) = ((i + 1 : Nat) : Int) := by
  unfold wrap64
  omega
end Go.Proofs.Ytpinaeegopdknaa.Pure
end
section
namespace Go.Proofs.Ytpinaeegopdknaa.Pure
open Go.RowKit Go.Proofs.Ytpinaeegopdknaa Go.Proofs.Ytpinaeegopdknaa.Q Go.Proofs.YtpinaeegopdknaaW.PrintWords
set_option linter.unusedVariables false
set_option linter.unusedSimpArgs false
theorem w64 {n : Int} (h0 : -9223372036854775808 ≤ n) (h1 : n ≤ 9223372036854775807) : wrap64 n = n := by
  unfold wrap64
  omega
theorem in_eq (a b c : Int) : spec_l01In.f a b c = some (decide (b ≤ a ∧ a ≤ c)) := by
  unfold spec_l01In.f
  by_cases h : a ≥ b
  · rw [if_pos h]; simp; intro _; exact h
  · rw [if_neg h]; simp; intro h2; omega
theorem within_eq (a b c : Int) : impl_within.f a b c = some (decide (b ≤ a ∧ a ≤ c)) := in_eq a b c
end Go.Proofs.Ytpinaeegopdknaa.Pure
end
section
namespace Go.Proofs.Ytpinaeegopdknaa.Pure
open Go.RowKit Go.Proofs.Ytpinaeegopdknaa Go.Proofs.Ytpinaeegopdknaa.Q Go.Proofs.YtpinaeegopdknaaW.PrintWords
set_option linter.unusedVariables false
set_option linter.unusedSimpArgs false
def Co (x : Int) : Bool := decide (-100 ≤ x ∧ x ≤ 100)
theorem Co_iff {x : Int} : Co x = true ↔ -100 ≤ x ∧ x ≤ 100 := by simp [Co]
theorem l02Cell_eq (x y : Int) : spec_l02Cell.f x y = some (Co x && Co y) := by
  unfold spec_l02Cell.f Co
  rw [in_eq]
  simp only [Option.bind_some]
  by_cases c : -100 ≤ x ∧ x ≤ 100
  · rw [if_pos (by simpa using c), in_eq]
    simp [c]
  · rw [if_neg (by simpa using c)]
    simp [c]
end Go.Proofs.Ytpinaeegopdknaa.Pure
end
section
namespace Go.Proofs.Ytpinaeegopdknaa.Pure
open Go.RowKit Go.Proofs.Ytpinaeegopdknaa Go.Proofs.Ytpinaeegopdknaa.Q Go.Proofs.YtpinaeegopdknaaW.PrintWords
set_option linter.unusedVariables false
set_option linter.unusedSimpArgs false
abbrev Cell := S43
def allF (ok : Nat → Bool) (n i : Nat) : Bool := (List.range' i (n - i)).all ok
theorem allF_end (ok : Nat → Bool) (n : Nat) : allF ok n n = true := by simp [allF]
theorem allF_succ (ok : Nat → Bool) {n i : Nat} (h : i < n) : allF ok n i = (ok i && allF ok n (i + 1)) := by
  unfold allF
  rw [show n - i = (n - (i + 1)) + 1 by omega, List.range'_succ]
  rfl
theorem allF_true {ok : Nat → Bool} {n i : Nat} : allF ok n i = true ↔ ∀ j, i ≤ j → j < n → ok j = true := by
  unfold allF
  rw [List.all_eq_true]
  constructor
  · intro h j h1 h2
    exact h j (by rw [List.mem_range'_1]; omega)
  · intro h j hj
    rw [List.mem_range'_1] at hj
    exact h j (by omega) (by omega)
def lessC (a b : Cell) : Bool := decide (a.f1 < b.f1) || (decide (a.f1 = b.f1) && decide (a.f0 < b.f0))
theorem l02Less_eq (a b : Cell) : spec_l02Less.f a.f0 a.f1 b.f0 b.f1 = some (lessC a b) := by
  unfold spec_l02Less.f lessC
  by_cases h : a.f1 < b.f1
  · simp [h]
  · by_cases h2 : a.f1 = b.f1
    · simp [h2]
    · simp [h, h2]
def shOk (l : List Cell) (i : Nat) : Bool := (Co (l.getD i z43).f0 && Co (l.getD i z43).f1) && (decide (i = 0) || lessC (l.getD (i - 1) z43) (l.getD i z43))
def Sh (l : List Cell) : Bool := allF (shOk l) l.length 0 && decide (1 ≤ l.length ∧ l.length ≤ 40)
theorem rd_getD (l : List Cell) (i : Nat) : rd_T43 l (i : Int) = l.getD i z43 := by simp [rd_T43]
theorem spec_IsShape_eq (l : List Cell) (hl : l.length ≤ 9223372036854775807) : Evt (fun k => spec_IsShape.f k l) (Sh l) := by
  unfold spec_IsShape.f
  refine Evt.up (g := fun k i => spec_IsShape.l0 k l (i : Int)) (R := fun i => allF (shOk l) l.length i && decide (1 ≤ l.length ∧ l.length ≤ 40)) (n := l.length) ?_ ?_ 0 (Nat.zero_le _)
  · refine Evt.step (fun k => rfl) ?_
    simp only [spec_IsShape.l0]
    refine Evt.ite_neg (by omega) ?_
    rw [in_eq, allF_end, Bool.true_and]
    refine Evt.const ?_
    simp only [Option.bind_some]
    congr 1
    exact decide_eq_decide.2 (by omega)
  · intro i hi ih
    refine Evt.step (fun k => rfl) ?_
    simp only [spec_IsShape.l0, l02Cell_eq, Option.bind_some]
    refine Evt.ite_pos (by omega) (Evt.ite_pos (by omega) ?_)
    rw [allF_succ _ hi]
    simp only [rd_getD]
    by_cases hc : (Co (l.getD i z43).f0 && Co (l.getD i z43).f1) = true
    · refine Evt.ite_pos hc ?_
      by_cases h0 : i = 0
      · subst h0
        refine Evt.ite_neg (by omega) ?_
        rw [wrap_succ hi hl]
        have e : shOk l 0 = true := by unfold shOk; rw [hc]; rfl
        rw [e, Bool.true_and]
        exact ih
      · refine Evt.ite_pos (by omega) ?_
        have ew : wrap64 ((i : Int) - 1) = ((i - 1 : Nat) : Int) := by rw [w64 (by omega) (by omega)]; omega
        simp only [ew, rd_getD, l02Less_eq, Option.bind_some]
        refine Evt.ite_pos (by omega) (Evt.ite_pos (by omega) ?_)
        rw [wrap_succ hi hl]
        by_cases hls : lessC (l.getD (i - 1) z43) (l.getD i z43) = true
        · refine Evt.ite_pos hls ?_
          have e : shOk l i = true := by unfold shOk; rw [hc, hls]; simp
          rw [e, Bool.true_and]
          exact ih
        · refine Evt.ite_neg hls ?_
          have e : shOk l i = false := by unfold shOk; rw [hc, Bool.eq_false_iff.mpr hls]; simp [h0]
          rw [e]
          exact Evt.pure
    · refine Evt.ite_neg hc ?_
      have e : shOk l i = false := by unfold shOk; rw [Bool.eq_false_iff.mpr hc]; rfl
      rw [e]
      exact Evt.pure
theorem Sh_len {l : List Cell} (h : Sh l = true) : 1 ≤ l.length ∧ l.length ≤ 40 := by
  unfold Sh at h
  simp only [Bool.and_eq_true, decide_eq_true_eq] at h
  exact h.2
theorem Sh_co {l : List Cell} (h : Sh l = true) : ∀ c ∈ l, (-100 ≤ c.f0 ∧ c.f0 ≤ 100) ∧ -100 ≤ c.f1 ∧ c.f1 ≤ 100 := by
  intro c hc
  obtain ⟨i, hi, rfl⟩ := List.getElem_of_mem hc
  unfold Sh at h
  simp only [Bool.and_eq_true, decide_eq_true_eq] at h
  have h2 := allF_true.1 h.1 i (Nat.zero_le _) hi
  unfold shOk at h2
  simp only [Bool.and_eq_true, List.getD_eq_getElem?_getD, List.getElem?_eq_getElem hi, Option.getD_some] at h2
  exact ⟨Co_iff.1 h2.1.1, Co_iff.1 h2.1.2⟩
end Go.Proofs.Ytpinaeegopdknaa.Pure
end
section
namespace Go.Proofs.Ytpinaeegopdknaa.Pure
open Go.RowKit Go.Proofs.Ytpinaeegopdknaa Go.Proofs.Ytpinaeegopdknaa.Q Go.Proofs.YtpinaeegopdknaaW.PrintWords
set_option linter.unusedVariables false
set_option linter.unusedSimpArgs false
def cc (p : Int × Int) : Cell := ⟨p.1, p.2⟩
theorem cc_inj {p q : Int × Int} (h : cc p = cc q) : p = q := by
  unfold cc at h
  injection h with h1 h2
  exact Prod.ext h1 h2
def ixAt (p : Int × Int) : Nat → List Cell → Int
  | _, [] => -1
  | i, c :: r => if c.f0 = p.1 ∧ c.f1 = p.2 then (i : Int) else ixAt p (i + 1) r
theorem ixAt_mem (p : Int × Int) : ∀ (l : List Cell) (i : Nat), 0 ≤ ixAt p i l ↔ cc p ∈ l
  | [], i => by simp [ixAt]
  | c :: r, i => by
    unfold ixAt
    by_cases h : c.f0 = p.1 ∧ c.f1 = p.2
    · rw [if_pos h]
      have e : c = cc p := by
        cases c
        unfold cc
        simp at h
        rw [h.1, h.2]
      simp [e]
    · rw [if_neg h, ixAt_mem p r (i + 1), List.mem_cons]
      constructor
      · exact fun h2 => Or.inr h2
      · rintro (e | h2)
        · exact absurd (by rw [← e]; exact ⟨rfl, rfl⟩) h
        · exact h2
theorem drop_getD {α : Type} (l : List α) (i : Nat) (z : α) (h : i < l.length) : l.drop i = l.getD i z :: l.drop (i + 1) := by
  rw [List.drop_eq_getElem_cons h]
  simp [List.getD_eq_getElem?_getD, List.getElem?_eq_getElem h]
theorem l02Index_eq (l : List Cell) (x y : Int) (hl : l.length ≤ 9223372036854775807) : Evt (fun k => spec_l02Index.f k l x y) (ixAt (x, y) 0 l) := by
  unfold spec_l02Index.f
  have h := Evt.up (g := fun k i => spec_l02Index.l0 k l (i : Int) x y) (R := fun i => ixAt (x, y) i (l.drop i)) (n := l.length) ?_ ?_ 0 (Nat.zero_le _)
  · exact h
  · refine Evt.step (fun k => rfl) ?_
    simp only [spec_l02Index.l0]
    refine Evt.ite_neg (by omega) ?_
    rw [List.drop_length]
    exact Evt.pure
  · intro i hi ih
    refine Evt.step (fun k => rfl) ?_
    simp only [spec_l02Index.l0, rd_getD]
    refine Evt.ite_pos (by omega) (Evt.ite_pos (by omega) ?_)
    rw [drop_getD l i z43 hi]
    unfold ixAt
    by_cases hc : (l.getD i z43).f0 = x ∧ (l.getD i z43).f1 = y
    · rw [if_pos hc]
      refine Evt.ite_pos (by rw [hc.1, hc.2]; simp) Evt.pure
    · rw [if_neg hc]
      refine Evt.ite_neg (by simpa using hc) ?_
      rw [wrap_succ hi hl]
      exact ih
end Go.Proofs.Ytpinaeegopdknaa.Pure
end
section
namespace Go.Proofs.Ytpinaeegopdknaa.Pure
open Go.RowKit Go.Proofs.Ytpinaeegopdknaa Go.Proofs.Ytpinaeegopdknaa.Q Go.Proofs.YtpinaeegopdknaaW.PrintWords
set_option linter.unusedVariables false
set_option linter.unusedSimpArgs false
def Lat (w s h : Int) : Bool := decide (1 ≤ w ∧ w ≤ 40) && (decide (1 ≤ h ∧ h ≤ 40) && decide (0 ≤ s ∧ s ≤ w - 1))
theorem Lat_iff {w s h : Int} : Lat w s h = true ↔ 1 ≤ w ∧ w ≤ 40 ∧ 1 ≤ h ∧ h ≤ 40 ∧ 0 ≤ s ∧ s < w := by
  unfold Lat
  simp
  omega
theorem isLattice_spec (w s h : Int) : spec_IsLattice.f w s h = some (Lat w s h) := by
  unfold spec_IsLattice.f Lat
  rw [in_eq]
  simp only [Option.bind_some]
  by_cases c1 : 1 ≤ w ∧ w ≤ 40
  · rw [if_pos (by simpa using c1), in_eq]
    simp only [Option.bind_some]
    by_cases c2 : 1 ≤ h ∧ h ≤ 40
    · rw [if_pos (by simpa using c2), in_eq, w64 (by omega) (by omega)]
      simp [c1, c2]
    · rw [if_neg (by simpa using c2)]
      simp [c2]
  · rw [if_neg (by simpa using c1)]
    simp [c1]
theorem isLattice_impl (w s h : Int) : impl_IsLattice.f w s h = some (Lat w s h) := isLattice_spec w s h
theorem tmod_bound (a m : Int) (hm : 0 < m) : -m < Int.tmod a m ∧ Int.tmod a m < m := by
  have h1 := Int.tmod_lt_of_pos a hm
  have h2 := Int.lt_tmod_of_pos a hm
  exact ⟨h2, h1⟩
theorem mod_eq (a m : Int) (hm : 0 < m) (hb : m ≤ 1000000000) : Int.tmod (wrap64 (Int.tmod a m + m)) m = a % m := by
  obtain ⟨h1, h2⟩ := tmod_bound a m hm
  rw [w64 (by omega) (by omega), Int.tmod_eq_emod_of_nonneg (by omega)]
  have h3 := Int.mul_tdiv_add_tmod a m
  have h4 : Int.tmod a m + m = a + m * (1 - Int.tdiv a m) := by rw [Int.mul_sub, Int.mul_one]; omega
  rw [h4, Int.add_mul_emod_self_left]
theorem l01Mod_eq (a m : Int) (hm : 0 < m) (hb : m ≤ 1000000000) : spec_l01Mod.f a m = some (a % m) := by
  unfold spec_l01Mod.f
  rw [if_neg (by omega), mod_eq a m hm hb]
theorem modOf_eq (a m : Int) (hm : 0 < m) (hb : m ≤ 1000000000) : impl_modOf.f a m = some (a % m) := l01Mod_eq a m hm hb
theorem floor_div (a m : Int) (hm : 0 < m) : Int.tdiv (a - a % m) m = a / m := by
  have h := Int.mul_ediv_add_emod a m
  have h2 : a - a % m = m * (a / m) := by omega
  rw [h2, Int.mul_tdiv_cancel_left _ (by omega)]
theorem div_abs (a m b : Int) (hm : 1 ≤ m) (h0 : -b ≤ a) (h1 : a ≤ b) : -b ≤ a / m ∧ a / m ≤ b := by
  have hb : 0 ≤ b := by omega
  constructor
  · rw [Int.le_ediv_iff_mul_le (by omega)]
    have : -b * m ≤ -b * 1 := Int.mul_le_mul_of_nonpos_left (by omega) hm
    omega
  · rcases Int.lt_or_le a 0 with hn | hp
    · have := Int.ediv_neg_of_neg_of_pos hn (by omega : (0:Int) < m)
      omega
    · exact Int.le_trans (Int.ediv_le_self m hp) h1
def cm (x y w s h : Int) : Int × Int := ((x - y / h * s) % w, y % h)
theorem mul_small {q s : Int} (h0 : -1000000 ≤ q) (h1 : q ≤ 1000000) (s0 : 0 ≤ s) (s1 : s ≤ 40) : -40000000 ≤ q * s ∧ q * s ≤ 40000000 := by
  constructor
  · have h2 : -1000000 * s ≤ q * s := Int.mul_le_mul_of_nonneg_right h0 s0
    omega
  · have h2 : q * s ≤ 1000000 * s := Int.mul_le_mul_of_nonneg_right h1 s0
    omega
theorem l24Cell_eq {x y w s h : Int} (hL : Lat w s h = true) (x0 : -1000000 ≤ x) (x1 : x ≤ 1000000) (y0 : -1000000 ≤ y) (y1 : y ≤ 1000000) : spec_l24Cell.f x y w s h = some (cm x y w s h) := by
  obtain ⟨w0, w1, h0, h1, s0, s1⟩ := Lat_iff.1 hL
  have hq := div_abs y h 1000000 h0 y0 y1
  have hm0 := Int.emod_nonneg y (by omega : h ≠ 0)
  have hm1 := Int.emod_lt_of_pos y (by omega : 0 < h)
  have e := Int.mul_ediv_add_emod y h
  have hs := mul_small hq.1 hq.2 s0 (by omega)
  have hh := mul_small hq.1 hq.2 (by omega : 0 ≤ h) h1
  unfold spec_l24Cell.f spec_l24Floor.f cm
  rw [l01Mod_eq y h (by omega) (by omega)]
  simp only [Option.bind_some]
  rw [if_neg (by omega), w64 (n := y - y % h) (by omega) (by omega), floor_div y h (by omega), w64 (n := y / h) (by omega) (by omega)]
  simp only [Option.bind_some]
  rw [w64 (n := y / h * s) (by omega) (by omega), w64 (n := x - y / h * s) (by omega) (by omega), l01Mod_eq _ w (by omega) (by omega)]
  simp only [Option.bind_some]
  rw [w64 (n := y / h * h) (by omega) (by omega), w64 (by rw [Int.mul_comm]; omega) (by rw [Int.mul_comm]; omega)]
  have : y - y / h * h = y % h := by rw [Int.mul_comm]; omega
  rw [this]
theorem modulo_eq {x y w s h : Int} (hL : Lat w s h = true) (x0 : -1000000 ≤ x) (x1 : x ≤ 1000000) (y0 : -1000000 ≤ y) (y1 : y ≤ 1000000) : impl_Lattice_modulo.f w s h x y = some (cm x y w s h) := by
  obtain ⟨w0, w1, h0, h1, s0, s1⟩ := Lat_iff.1 hL
  have hq := div_abs y h 1000000 h0 y0 y1
  have hm0 := Int.emod_nonneg y (by omega : h ≠ 0)
  have hm1 := Int.emod_lt_of_pos y (by omega : 0 < h)
  have hs := mul_small hq.1 hq.2 s0 (by omega)
  unfold impl_Lattice_modulo.f cm
  rw [modOf_eq y h (by omega) (by omega)]
  simp only [Option.bind_some]
  rw [if_neg (by omega), w64 (n := y - y % h) (by omega) (by omega), floor_div y h (by omega), w64 (n := y / h) (by omega) (by omega), w64 (n := y / h * s) (by omega) (by omega), w64 (by omega) (by omega), modOf_eq _ w (by omega) (by omega)]
  rfl
theorem isCoordinate_eq (x : Int) : impl_isCoordinate.f x = some (Co x) := by
  unfold impl_isCoordinate.f
  rw [within_eq]
  rfl
end Go.Proofs.Ytpinaeegopdknaa.Pure
end
section
namespace Go.Proofs.Ytpinaeegopdknaa.Pure
open Go.RowKit Go.Proofs.Ytpinaeegopdknaa Go.Proofs.Ytpinaeegopdknaa.Q Go.Proofs.YtpinaeegopdknaaW.PrintWords
set_option linter.unusedVariables false
set_option linter.unusedSimpArgs false
theorem isNaN_eq (x : Int) : cmp_isNaN_int64.f x = some false := by
  unfold cmp_isNaN_int64.f
  simp
def cmpI (a b : Int) : Int := if a < b then -1 else if a > b then 1 else 0
theorem Compare_eq (a b : Int) : cmp_Compare_int64.f a b = some (cmpI a b) := by
  unfold cmp_Compare_int64.f cmpI
  rw [isNaN_eq, isNaN_eq]
  simp only [Option.bind_some]
  by_cases h1 : a < b
  · simp [h1]
  · by_cases h2 : a > b
    · simp [h1, h2]
    · simp [h1, h2]
def cmpC (a b : Cell) : Int := if cmpI a.f1 b.f1 = 0 then cmpI a.f0 b.f0 else cmpI a.f1 b.f1
theorem compareCells_eq (a b : Cell) : impl_compareCells.f a.f0 a.f1 b.f0 b.f1 = some (cmpC a b) := by
  unfold impl_compareCells.f cmpC
  rw [Compare_eq, Compare_eq]
  simp only [Option.bind_some]
  by_cases h : cmpI a.f1 b.f1 = 0
  · rw [if_pos h, if_pos h]
  · rw [if_neg h, if_neg h]
theorem cmpC_less (a b : Cell) : cmpC a b < 0 ↔ lessC a b = true := by
  unfold cmpC cmpI lessC
  repeat (split)
  all_goals (simp; omega)
theorem impl_IsShape_eq (l : List Cell) (hl : l.length ≤ 9223372036854775807) : Evt (fun k => impl_IsShape.f k l) (Sh l) := by
  unfold impl_IsShape.f
  refine Evt.up (g := fun k i => impl_IsShape.l0 k l l (l.length : Int) (i : Int)) (R := fun i => allF (shOk l) l.length i && decide (1 ≤ l.length ∧ l.length ≤ 40)) (n := l.length) ?_ ?_ 0 (Nat.zero_le _)
  · refine Evt.step (fun k => rfl) ?_
    simp only [impl_IsShape.l0]
    refine Evt.ite_neg (by omega) ?_
    rw [allF_end]
    by_cases h1 : (l.length : Int) ≥ 1
    · refine Evt.ite_pos h1 (Evt.const ?_)
      rw [Bool.true_and]
      congr 1
      exact decide_eq_decide.2 (by omega)
    · refine Evt.ite_neg h1 (Evt.const ?_)
      simp
      omega
  · intro i hi ih
    refine Evt.step (fun k => rfl) ?_
    simp only [impl_IsShape.l0, isCoordinate_eq, Option.bind_some]
    refine Evt.ite_pos (by omega) (Evt.ite_pos (by omega) (Evt.ite_pos (by omega) ?_))
    rw [allF_succ _ hi]
    simp only [rd_getD]
    by_cases hc0 : Co (l.getD i z43).f0 = true
    · refine Evt.ite_pos hc0 ?_
      by_cases hc1 : Co (l.getD i z43).f1 = true
      · refine Evt.ite_pos hc1 ?_
        by_cases h0 : i = 0
        · subst h0
          refine Evt.ite_neg (by omega) ?_
          rw [wrap_succ hi hl]
          have e : shOk l 0 = true := by unfold shOk; rw [hc0, hc1]; rfl
          rw [e, Bool.true_and]
          exact ih
        · refine Evt.ite_pos (by omega) ?_
          have ew : wrap64 ((i : Int) - 1) = ((i - 1 : Nat) : Int) := by rw [w64 (by omega) (by omega)]; omega
          simp only [ew, rd_getD, compareCells_eq, Option.bind_some]
          refine Evt.ite_pos (by omega) (Evt.ite_pos (by omega) ?_)
          rw [wrap_succ hi hl]
          have hiff := cmpC_less (l.getD (i - 1) z43) (l.getD i z43)
          by_cases hls : lessC (l.getD (i - 1) z43) (l.getD i z43) = true
          · refine Evt.ite_neg (by have := hiff.2 hls; omega) ?_
            have e : shOk l i = true := by unfold shOk; rw [hc0, hc1, hls]; simp
            rw [e, Bool.true_and]
            exact ih
          · refine Evt.ite_pos (by rcases Int.lt_or_le (cmpC (l.getD (i - 1) z43) (l.getD i z43)) 0 with h | h; exact absurd (hiff.1 h) hls; exact h) ?_
            have e : shOk l i = false := by unfold shOk; rw [hc0, hc1, Bool.eq_false_iff.mpr hls]; simp [h0]
            rw [e]
            exact Evt.pure
      · refine Evt.ite_neg hc1 ?_
        have e : shOk l i = false := by unfold shOk; rw [Bool.eq_false_iff.mpr hc1]; simp
        rw [e]
        exact Evt.pure
    · refine Evt.ite_neg hc0 ?_
      have e : shOk l i = false := by unfold shOk; rw [Bool.eq_false_iff.mpr hc0]; rfl
      rw [e]
      exact Evt.pure
end Go.Proofs.Ytpinaeegopdknaa.Pure
end
section
namespace Go.Proofs.Ytpinaeegopdknaa.Pure
open Go.RowKit Go.Proofs.Ytpinaeegopdknaa Go.Proofs.Ytpinaeegopdknaa.Q Go.Proofs.YtpinaeegopdknaaW.PrintWords
set_option linter.unusedVariables false
set_option linter.unusedSimpArgs false
def key (w s h : Int) (c : Cell) : Int × Int := cm c.f0 c.f1 w s h
def Small (l : List Cell) : Prop := ∀ c ∈ l, (-1000000 ≤ c.f0 ∧ c.f0 ≤ 1000000) ∧ -1000000 ≤ c.f1 ∧ c.f1 ≤ 1000000
theorem Sh_small {l : List Cell} (h : Sh l = true) : Small l := fun c hc => by have := Sh_co h c hc; omega
def tl (w s h : Int) : List Cell → List Cell → Bool
  | [], _ => true
  | c :: r, seen => if 0 ≤ ixAt (key w s h c) 0 seen then false else tl w s h r (seen ++ [cc (key w s h c)])
def til (l : List Cell) (w s h : Int) : Bool := if w * h = (l.length : Int) then tl w s h l [] else false
theorem l24Tiles_eq (l : List Cell) {w s h : Int} (hL : Lat w s h = true) (hs : Small l) (hl : l.length ≤ 1000000) : Evt (fun k => spec_l24Tiles.f k l w s h) (til l w s h) := by
  obtain ⟨w0, w1, h0, h1, s0, s1⟩ := Lat_iff.1 hL
  have hm := mul_small (q := w) (s := h) (by omega) (by omega) (by omega) (by omega)
  unfold spec_l24Tiles.f til
  rw [w64 (by omega) (by omega)]
  by_cases hc : w * h = (l.length : Int)
  · rw [if_pos hc]
    refine Evt.ite_pos hc ?_
    refine Evt.upS (g := fun k i seen => spec_l24Tiles.l0 k l seen (i : Int) w s h) (R := fun i seen => tl w s h (l.drop i) seen) (P := fun i seen => seen.length = i) (n := l.length) ?_ ?_ 0 [] (Nat.zero_le _) rfl
    · rintro seen _
      refine Evt.step (fun k => rfl) ?_
      simp only [spec_l24Tiles.l0]
      refine Evt.ite_neg (by omega) ?_
      rw [List.drop_length]
      exact Evt.pure
    · rintro i seen hi hp ih
      refine Evt.step (fun k => rfl) ?_
      have hb := hs (l.getD i z43) (by rw [List.getD_eq_getElem?_getD, List.getElem?_eq_getElem hi]; exact List.getElem_mem hi)
      simp only [spec_l24Tiles.l0, rd_getD, l24Cell_eq hL hb.1.1 hb.1.2 hb.2.1 hb.2.2, Option.bind_some]
      refine Evt.ite_pos (by omega) (Evt.ite_pos (by omega) ?_)
      refine Evt.bind (l02Index_eq seen _ _ (by omega)) ?_
      rw [drop_getD l i z43 hi]
      unfold tl
      by_cases hx : 0 ≤ ixAt (key w s h (l.getD i z43)) 0 seen
      · rw [if_pos hx]
        exact Evt.ite_pos hx Evt.pure
      · rw [if_neg hx]
        refine Evt.ite_neg hx (Evt.ite_pos (by omega) ?_)
        rw [wrap_succ hi (by omega)]
        exact ih _ (by simp [hp])
  · rw [if_neg hc]
    exact Evt.ite_neg hc Evt.pure
theorem tl_iff (w s h : Int) : ∀ (l seen : List Cell), tl w s h l seen = true ↔ (l.map (key w s h)).Nodup ∧ ∀ c ∈ l, cc (key w s h c) ∉ seen
  | [], seen => by simp [tl]
  | c :: r, seen => by
    unfold tl
    have hm := ixAt_mem (key w s h c) seen 0
    by_cases hx : 0 ≤ ixAt (key w s h c) 0 seen
    · rw [if_pos hx]
      simp only [Bool.false_eq_true, false_iff, not_and]
      intro _ h2
      exact h2 c List.mem_cons_self (hm.1 hx)
    · rw [if_neg hx, tl_iff w s h r]
      have hns : cc (key w s h c) ∉ seen := fun h2 => hx (hm.2 h2)
      simp only [List.map_cons, List.nodup_cons, List.mem_append, List.mem_singleton, not_or, List.mem_map, not_exists, not_and, List.mem_cons]
      constructor
      · rintro ⟨h1, h2⟩
        refine ⟨⟨fun d hd he => (h2 d hd).2.1 (by rw [he]), h1⟩, ?_⟩
        rintro d (rfl | hd)
        · exact hns
        · exact (h2 d hd).1
      · rintro ⟨⟨h1, h2⟩, h3⟩
        exact ⟨h2, fun d hd => ⟨h3 d (Or.inr hd), fun he => h1 d hd (cc_inj he), by simp⟩⟩
theorem mget_some {κ ε : Type} [DecidableEq κ] : ∀ (L : List (κ × ε)) (x : κ), (mget L x).isSome = true ↔ x ∈ L.map Prod.fst
  | [], x => by simp [mget]
  | p :: r, x => by
    unfold mget
    by_cases h : p.1 = x
    · rw [if_pos h]; simp [h]
    · rw [if_neg h, mget_some r x]
      simp only [List.map_cons, List.mem_cons]
      constructor
      · exact fun h2 => Or.inr h2
      · rintro (h2 | h2)
        · exact absurd h2.symm h
        · exact h2
theorem mlen_nodup {κ ε : Type} [DecidableEq κ] : ∀ (L : List (κ × ε)), mlen L = L.length ↔ (L.map Prod.fst).Nodup
  | [] => by simp [mlen]
  | p :: r => by
    have ih := mlen_nodup r
    have hle := mlen_le r
    have hs := mget_some r p.1
    unfold mlen
    rw [List.map_cons, List.nodup_cons, ← ih]
    by_cases h : (mget r p.1).isSome = true
    · rw [if_pos h]
      simp only [List.length_cons]
      constructor
      · intro e; omega
      · intro e; exact absurd (hs.1 h) e.1
    · rw [if_neg h]
      simp only [List.length_cons]
      constructor
      · intro e; exact ⟨fun h2 => h (hs.2 h2), by omega⟩
      · intro e; omega
theorem rng_of {x : Int} (h0 : -9223372036854775808 ≤ x) (h1 : x ≤ 9223372036854775807) : rng x = true := by
  unfold rng
  simp [h0, h1]
theorem cm_rng {x y w s h : Int} (hL : Lat w s h = true) : (rng (cm x y w s h).1 && rng (cm x y w s h).2) = true := by
  obtain ⟨w0, w1, h0, h1, s0, s1⟩ := Lat_iff.1 hL
  unfold cm
  have a := Int.emod_nonneg (x - y / h * s) (by omega : w ≠ 0)
  have b := Int.emod_lt_of_pos (x - y / h * s) (by omega : 0 < w)
  have c := Int.emod_nonneg y (by omega : h ≠ 0)
  have d := Int.emod_lt_of_pos y (by omega : 0 < h)
  rw [rng_of (by simp only; omega) (by simp only; omega), rng_of (by simp only; omega) (by simp only; omega)]
  rfl
theorem tiles_l {w s h : Int} (hL : Lat w s h = true) : ∀ (r : List Cell) (L : List ((Int × Int) × Bool)), Small r → impl_Lattice_tiles.l w s h r L = some ((r.map fun c => (key w s h c, true)).reverse ++ L)
  | [], L, _ => rfl
  | c :: r, L, hs => by
    have hb := hs c List.mem_cons_self
    unfold impl_Lattice_tiles.l
    rw [modulo_eq hL hb.1.1 hb.1.2 hb.2.1 hb.2.2]
    simp only [Option.bind_some]
    rw [if_pos (cm_rng hL), tiles_l hL r _ (fun d hd => hs d (List.mem_cons_of_mem _ hd))]
    simp [key]
theorem tiles_eq (l : List Cell) {w s h : Int} (hL : Lat w s h = true) (hs : Small l) : impl_Lattice_tiles.f w s h l = some (til l w s h) := by
  obtain ⟨w0, w1, h0, h1, s0, s1⟩ := Lat_iff.1 hL
  have hm := mul_small (q := w) (s := h) (by omega) (by omega) (by omega) (by omega)
  unfold impl_Lattice_tiles.f til
  rw [tiles_l hL l [] hs]
  simp only [Option.bind_some, List.append_nil]
  rw [w64 (by omega) (by omega)]
  by_cases hc : w * h = (l.length : Int)
  · rw [if_pos hc, if_pos hc]
    congr 1
    have h1 := tl_iff w s h l []
    have h2 := mlen_nodup (l.map fun c => (key w s h c, true)).reverse
    have e : ((l.map fun c => (key w s h c, true)).reverse.map Prod.fst).Nodup ↔ (l.map (key w s h)).Nodup := by
      rw [List.map_reverse, (List.reverse_perm _).nodup_iff, List.map_map]
      exact Iff.rfl
    rw [e, List.length_reverse, List.length_map] at h2
    rw [Bool.eq_iff_iff, decide_eq_true_iff, h1]
    simp only [List.not_mem_nil, not_false_eq_true, implies_true, and_true]
    rw [← h2]
    omega
  · rw [if_neg hc, if_neg hc]
end Go.Proofs.Ytpinaeegopdknaa.Pure
end
section
namespace Go.Proofs.Ytpinaeegopdknaa.Pure
open Go.RowKit Go.Proofs.Ytpinaeegopdknaa Go.Proofs.Ytpinaeegopdknaa.Q Go.Proofs.YtpinaeegopdknaaW.PrintWords
set_option linter.unusedVariables false
set_option linter.unusedSimpArgs false
theorem cm_in {x y w s h : Int} (hw : 0 < w) (hh : 0 < h) : (0 ≤ (cm x y w s h).1 ∧ (cm x y w s h).1 < w) ∧ 0 ≤ (cm x y w s h).2 ∧ (cm x y w s h).2 < h := by
  unfold cm
  exact ⟨⟨Int.emod_nonneg _ (by omega), Int.emod_lt_of_pos _ hw⟩, Int.emod_nonneg _ (by omega), Int.emod_lt_of_pos _ hh⟩
theorem rng_in {x : Int} (h0 : -1000000 ≤ x) (h1 : x ≤ 1000000) : rng x = true := by
  unfold rng
  simp
  omega
def ownL (w s h : Int) : List Cell → List ((Int × Int) × (Int × Int)) → List ((Int × Int) × (Int × Int))
  | [], L => L
  | c :: r, L => ownL w s h r ((key w s h c, (c.f0, c.f1)) :: L)
theorem own_eq {w s h : Int} (hL : Lat w s h = true) : ∀ (l : List Cell) (L : List ((Int × Int) × (Int × Int))), Small l → impl_PatchOf.o w s h l L = some (ownL w s h l L)
  | [], _, _ => rfl
  | c :: r, L, hs => by
    obtain ⟨w0, w1, h0, h1, s0, s1⟩ := Lat_iff.1 hL
    have hb := hs c List.mem_cons_self
    have hk := cm_in (x := c.f0) (y := c.f1) (w := w) (s := s) (h := h) (by omega) (by omega)
    rw [impl_PatchOf.o, modulo_eq hL hb.1.1 hb.1.2 hb.2.1 hb.2.2]
    simp only [Option.bind_some]
    rw [rng_in (by omega) (by omega), rng_in (by omega) (by omega), if_pos (show (true && true) = true from rfl)]
    exact own_eq hL r _ (fun d hd => hs d (List.mem_cons_of_mem _ hd))
def vecL (L : List ((Int × Int) × (Int × Int))) (p : Int × Int) (x y : Int) (v : Int × Int) : Int × Int := match mget L p with
  | some c => (wrap64 (x - c.1), wrap64 (y - c.2))
  | none => v
def vecS (w s h : Int) (p : Int × Int) (x y : Int) : List Cell → Int × Int → Int × Int
  | [], v => v
  | c :: r, v => vecS w s h p x y r (if key w s h c = p then (wrap64 (x - c.f0), wrap64 (y - c.f1)) else v)
theorem vec_eq (w s h : Int) (p : Int × Int) (x y : Int) (v : Int × Int) : ∀ (l : List Cell) (L : List ((Int × Int) × (Int × Int))), vecS w s h p x y l (vecL L p x y v) = vecL (ownL w s h l L) p x y v
  | [], _ => rfl
  | c :: r, L => by
    rw [vecS, ownL, ← vec_eq w s h p x y v r]
    congr 1
    unfold vecL
    rw [mget]
    by_cases e : key w s h c = p
    · rw [if_pos e, if_pos e]
    · rw [if_neg e, if_neg e]
theorem ownL_has (w s h : Int) (p : Int × Int) : ∀ (l : List Cell) (L : List ((Int × Int) × (Int × Int))), p ∈ l.map (key w s h) ∨ p ∈ L.map Prod.fst → p ∈ (ownL w s h l L).map Prod.fst
  | [], L, h => by
    rcases h with h | h
    · cases h
    · exact h
  | c :: r, L, h => by
    rw [ownL]
    refine ownL_has w s _ p r _ ?_
    rw [List.map_cons, List.mem_cons] at h
    rcases h with (h | h) | h
    · exact .inr (by rw [h]; simp)
    · exact .inl h
    · exact .inr (by simp [h])
theorem nodup_leP {α : Type} [DecidableEq α] : ∀ (a b : List α), a.Nodup → (∀ x ∈ a, x ∈ b) → a.length ≤ b.length
  | [], b, _, _ => Nat.zero_le _
  | x :: a, b, h, hs => by
    obtain ⟨h1, h2⟩ := List.nodup_cons.1 h
    have hx := hs x List.mem_cons_self
    have ih := nodup_leP a (b.erase x) h2 (fun y hy => (List.mem_erase_of_ne (fun e => h1 (by rw [← e]; exact hy))).2 (hs y (List.mem_cons_of_mem _ hy)))
    rw [List.length_erase_of_mem hx] at ih
    have : 0 < b.length := List.length_pos_of_mem hx
    rw [List.length_cons]
    omega
def boxP (W H : Nat) : List (Int × Int) := (List.range (W * H)).map fun i => (((i % W : Nat) : Int), ((i / W : Nat) : Int))
theorem boxP_mem {W H : Nat} {a b : Int} (a0 : 0 ≤ a) (a1 : a < W) (b0 : 0 ≤ b) (b1 : b < H) : (a, b) ∈ boxP W H := by
  obtain ⟨i, rfl⟩ := Int.eq_ofNat_of_zero_le a0
  obtain ⟨j, rfl⟩ := Int.eq_ofNat_of_zero_le b0
  have hi : i < W := by omega
  have hj : j < H := by omega
  refine List.mem_map.2 ⟨j * W + i, List.mem_range.2 ?_, ?_⟩
  · have h1 : j * W + W ≤ H * W := by
      rw [← Nat.succ_mul]
      exact Nat.mul_le_mul_right _ hj
    rw [Nat.mul_comm W H]
    omega
  · have e1 : (j * W + i) % W = i := by rw [Nat.mul_comm, Nat.mul_add_mod, Nat.mod_eq_of_lt hi]
    have e2 : (j * W + i) / W = j := by rw [Nat.mul_comm, Nat.mul_add_div (by omega), Nat.div_eq_of_lt hi, Nat.add_zero]
    rw [e1, e2]
theorem cover {l : List Cell} {w s h : Int} (hL : Lat w s h = true) (ht : til l w s h = true) (x y : Int) : cm x y w s h ∈ l.map (key w s h) := by
  obtain ⟨w0, w1, h0, h1, s0, s1⟩ := Lat_iff.1 hL
  unfold til at ht
  by_cases hc : w * h = (l.length : Int)
  case neg => rw [if_neg hc] at ht; cases ht
  rw [if_pos hc] at ht
  have hn := ((tl_iff w s h l []).1 ht).1
  by_cases hm : cm x y w s h ∈ l.map (key w s h)
  · exact hm
  · obtain ⟨W, rfl⟩ := Int.eq_ofNat_of_zero_le (show 0 ≤ w by omega)
    obtain ⟨H, rfl⟩ := Int.eq_ofNat_of_zero_le (show 0 ≤ h by omega)
    have hW : 0 < W := by omega
    have hH : 0 < H := by omega
    have hin : ∀ a b : Int, cm a b (W : Int) s (H : Int) ∈ boxP W H := fun a b => by
      have := cm_in (x := a) (y := b) (w := (W : Int)) (s := s) (h := (H : Int)) (by omega) (by omega)
      exact boxP_mem this.1.1 this.1.2 this.2.1 this.2.2
    have := nodup_leP (cm x y (W : Int) s (H : Int) :: l.map (key (W : Int) s (H : Int))) (boxP W H) (List.nodup_cons.2 ⟨hm, hn⟩) (fun z hz => by
      rcases List.mem_cons.1 hz with e | hz
      · rw [e]; exact hin x y
      · obtain ⟨c, _, rfl⟩ := List.mem_map.1 hz
        exact hin c.f0 c.f1)
    rw [List.length_cons, List.length_map] at this
    unfold boxP at this
    rw [List.length_map, List.length_range] at this
    have hc2 : W * H = l.length := by
      have : ((W * H : Nat) : Int) = (l.length : Int) := by rw [Int.natCast_mul]; exact hc
      omega
    omega
theorem vec_both {l : List Cell} {w s h : Int} (hL : Lat w s h = true) (ht : til l w s h = true) (x y : Int) :
    vecS w s h (cm x y w s h) x y l (0, 0) = (wrap64 (x - ((mget (ownL w s h l []) (cm x y w s h)).getD (0, 0)).1), wrap64 (y - ((mget (ownL w s h l []) (cm x y w s h)).getD (0, 0)).2)) := by
  have h1 := vec_eq w s h (cm x y w s h) x y (0, 0) l []
  have h2 : vecL [] (cm x y w s h) x y (0, 0) = (0, 0) := by unfold vecL; rw [mget]
  rw [h2] at h1
  rw [h1]
  have h3 := (mget_some (ownL w s h l []) (cm x y w s h)).2 (ownL_has w s h _ l [] (.inl (cover hL ht x y)))
  unfold vecL
  obtain ⟨c, hc⟩ := Option.isSome_iff_exists.1 h3
  rw [hc]
  rfl
theorem ixAt_app (p : Int × Int) (c : Cell) : ∀ (l : List Cell) (i : Nat), ixAt p i (l ++ [c]) = if 0 ≤ ixAt p i l then ixAt p i l else if c.f0 = p.1 ∧ c.f1 = p.2 then ((i + l.length : Nat) : Int) else -1
  | [], i => by
    have e0 : ixAt p i [] = -1 := rfl
    rw [List.nil_append, if_neg (show ¬ 0 ≤ ixAt p i [] by rw [e0]; omega)]
    rfl
  | d :: r, i => by
    rw [List.cons_append, ixAt, ixAt]
    by_cases h : d.f0 = p.1 ∧ d.f1 = p.2
    · rw [if_pos h, if_pos h, if_pos (by omega)]
    · rw [if_neg h, if_neg h, ixAt_app p c r (i + 1), List.length_cons, show i + 1 + r.length = i + (r.length + 1) by omega]
theorem ixP_lt (p : Int × Int) : ∀ (l : List Cell) (i : Nat), ixAt p i l < ((i + l.length : Nat) : Int)
  | [], i => by rw [ixAt]; simp; omega
  | c :: r, i => by
    rw [ixAt]
    by_cases h : c.f0 = p.1 ∧ c.f1 = p.2
    · rw [if_pos h, List.length_cons]; omega
    · rw [if_neg h, List.length_cons]
      have := ixP_lt p r (i + 1)
      omega
structure Inv (ls : List ((Int × Int) × Int)) (copies : List Cell) : Prop where
  len : ls.length = copies.length
  dist : mlen ls = ls.length
  look : ∀ q, mget ls q = if 0 ≤ ixAt q 0 copies then some (97 + ixAt q 0 copies % 26) else none
def cop (copies : List Cell) (q : Int × Int) : List Cell := if ixAt q 0 copies < 0 then copies ++ [cc q] else copies
theorem Inv.none : Inv [] [] := ⟨rfl, rfl, fun q => by rw [mget, ixAt, if_neg (by omega)]⟩
theorem Inv.step {ls : List ((Int × Int) × Int)} {copies : List Cell} (h : Inv ls copies) (q : Int × Int) : Inv (impl_PatchOf.ls ls q) (cop copies q) ∧ 0 ≤ ixAt q 0 (cop copies q) := by
  have hq := h.look q
  unfold impl_PatchOf.ls cop
  by_cases hi : 0 ≤ ixAt q 0 copies
  · rw [if_pos hi] at hq
    rw [if_neg (show ¬ ixAt q 0 copies < 0 by omega), hq, if_pos (show (some (97 + ixAt q 0 copies % 26)).isSome = true from rfl)]
    exact ⟨h, hi⟩
  · rw [if_neg hi] at hq
    rw [if_pos (show ixAt q 0 copies < 0 by omega), hq, if_neg (by simp)]
    have hc : (cc q).f0 = q.1 ∧ (cc q).f1 = q.2 := ⟨rfl, rfl⟩
    have hnew : ixAt q 0 (copies ++ [cc q]) = (copies.length : Int) := by rw [ixAt_app, if_neg hi, if_pos hc]; simp
    refine ⟨⟨by simp [h.len], ?_, fun p => ?_⟩, by rw [hnew]; omega⟩
    · rw [mlen, hq, h.dist]
      simp
    · rw [mget]
      by_cases e : q = p
      · subst e
        rw [if_pos rfl, hnew, if_pos (by omega), h.dist, h.len]
      · rw [if_neg e, h.look p, ixAt_app]
        have hne : ¬ ((cc q).f0 = p.1 ∧ (cc q).f1 = p.2) := fun c => e (Prod.ext c.1 c.2)
        by_cases hp : 0 ≤ ixAt p 0 copies
        · rw [if_pos hp, if_pos hp, if_pos hp]
        · rw [if_neg hp, if_neg hp, if_neg hne, if_neg (by omega)]
def rowS (l : List Cell) (w s h : Int) (y : Nat) : Nat → Nat → List Cell → List Int → List Cell × List Int
  | 0, _, copies, out => (copies, out)
  | n + 1, x, copies, out => rowS l w s h y n (x + 1) (cop copies (vecS w s h (cm x y w s h) x y l (0, 0))) (out ++ [97 + ixAt (vecS w s h (cm x y w s h) x y l (0, 0)) 0 (cop copies (vecS w s h (cm x y w s h) x y l (0, 0))) % 26])
def rowsS (l : List Cell) (w s h : Int) (wide : Nat) : Nat → Nat → List Cell → List Int → List Int
  | 0, _, _, out => out
  | n + 1, y, copies, out => rowsS l w s h wide n (y + 1) (rowS l w s h y wide 0 copies (if 0 < y then out ++ [47] else out)).1 (rowS l w s h y wide 0 copies (if 0 < y then out ++ [47] else out)).2
theorem cop_len (copies : List Cell) (q : Int × Int) : (cop copies q).length ≤ copies.length + 1 := by
  unfold cop
  split
  · simp
  · omega
theorem rowS_len (l : List Cell) (w s h : Int) (y : Nat) : ∀ (n x : Nat) (copies : List Cell) (out : List Int), (rowS l w s h y n x copies out).2.length = out.length + n ∧ (rowS l w s h y n x copies out).1.length ≤ copies.length + n
  | 0, _, _, _ => ⟨rfl, Nat.le_refl _⟩
  | n + 1, x, copies, out => by
    rw [rowS]
    have h1 := rowS_len l w s h y n (x + 1) (cop copies (vecS w s h (cm x y w s h) x y l (0, 0))) (out ++ [97 + ixAt (vecS w s h (cm x y w s h) x y l (0, 0)) 0 (cop copies (vecS w s h (cm x y w s h) x y l (0, 0))) % 26])
    have h2 := cop_len copies (vecS w s h (cm x y w s h) x y l (0, 0))
    rw [List.length_append, List.length_singleton] at h1
    exact ⟨by omega, by omega⟩
theorem row_eq {l : List Cell} {w s h : Int} (hL : Lat w s h = true) (ht : til l w s h = true) {y : Nat} (hy : y ≤ 1000) : ∀ (n x : Nat) (ls : List ((Int × Int) × Int)) (copies : List Cell) (out : List Int), Inv ls copies → x + n ≤ 100 → out.length + n < 1000 → copies.length + n < 1000 →
    ∃ ls', impl_PatchOf.row w s h (ownL w s h l []) y n x ls out = some (ls', (rowS l w s h y n x copies out).2) ∧ Inv ls' (rowS l w s h y n x copies out).1
  | 0, x, ls, copies, out, hI, _, _, _ => ⟨ls, rfl, hI⟩
  | n + 1, x, ls, copies, out, hI, hx, ho, hc => by
    obtain ⟨w0, w1, h0, h1, s0, s1⟩ := Lat_iff.1 hL
    have hk := cm_in (x := (x : Int)) (y := (y : Int)) (w := w) (s := s) (h := h) (by omega) (by omega)
    rw [impl_PatchOf.row, rowS, modulo_eq hL (by omega) (by omega) (by omega) (by omega)]
    simp only [Option.bind_some]
    rw [if_pos ⟨by rw [rng_in (by omega) (by omega), rng_in (by omega) (by omega)]; rfl, by omega, by rw [hI.len]; omega⟩]
    rw [← vec_both hL ht (x : Int) (y : Int)]
    obtain ⟨i1, i2⟩ := hI.step (vecS w s h (cm x y w s h) x y l (0, 0))
    have hg : (mget (impl_PatchOf.ls ls (vecS w s h (cm x y w s h) x y l (0, 0))) (vecS w s h (cm x y w s h) x y l (0, 0))).getD 0 = 97 + ixAt (vecS w s h (cm x y w s h) x y l (0, 0)) 0 (cop copies (vecS w s h (cm x y w s h) x y l (0, 0))) % 26 := by
      rw [i1.look, if_pos i2]
      rfl
    rw [hg]
    exact row_eq hL ht hy n (x + 1) _ _ _ i1 (by omega) (by simp; omega) (by have := cop_len copies (vecS w s h (cm x y w s h) x y l (0, 0)); omega)
theorem rows_eq {l : List Cell} {w s h : Int} (hL : Lat w s h = true) (ht : til l w s h = true) {wide : Nat} (hw : wide ≤ 20) : ∀ (n y : Nat) (ls : List ((Int × Int) × Int)) (copies : List Cell) (out : List Int), Inv ls copies → y + n ≤ 20 → out.length ≤ 21 * y → copies.length ≤ 20 * y →
    impl_PatchOf.rows w s h (ownL w s h l []) wide n y ls out = some (rowsS l w s h wide n y copies out)
  | 0, _, _, _, _, _, _, _, _ => rfl
  | n + 1, y, ls, copies, out, hI, hy, ho, hc => by
    rw [impl_PatchOf.rows, rowsS, if_pos (by omega)]
    have hol : (if 0 < y then out ++ [47] else out).length ≤ 21 * y + 1 := by
      split
      · simp; omega
      · omega
    obtain ⟨ls', e1, e2⟩ := row_eq hL ht (show y ≤ 1000 by omega) wide 0 ls copies (if 0 < y then out ++ [47] else out) hI (by omega) (by omega) (by omega)
    rw [e1]
    simp only [Option.bind_some]
    have hr := rowS_len l w s h y wide 0 copies (if 0 < y then out ++ [47] else out)
    exact rows_eq hL ht hw n (y + 1) ls' _ _ e2 (by omega) (by omega) (by omega)
end Go.Proofs.Ytpinaeegopdknaa.Pure
end
section
namespace Go.Proofs.Ytpinaeegopdknaa.Pure
open Go.RowKit Go.Proofs.Ytpinaeegopdknaa Go.Proofs.Ytpinaeegopdknaa.Q Go.Proofs.YtpinaeegopdknaaW.PrintWords
set_option linter.unusedVariables false
set_option linter.unusedSimpArgs false
theorem letter_eq {i : Int} (h0 : 0 ≤ i) (h1 : i ≤ 1000000) : wrap64 (97 + Int.tmod i 26) % 256 = 97 + i % 26 := by
  rw [Int.tmod_eq_emod_of_nonneg h0]
  have : 0 ≤ i % 26 ∧ i % 26 < 26 := ⟨Int.emod_nonneg _ (by omega), Int.emod_lt_of_pos _ (by omega)⟩
  rw [w64 (by omega) (by omega)]
  omega
theorem vecS_loop {l : List Cell} {w s h : Int} (hL : Lat w s h = true) (hs : Small l) (hl : l.length ≤ 1048576) (a2 a3 : Int) (out : List Int) (copies : List Cell) {x y : Nat} (hx : x ≤ 1000) (hy : y ≤ 1000) {r : ByteArray × Int}
    (hfin : ∀ v : Int × Int, v = vecS w s h (cm x y w s h) x y l (0, 0) → Evt (fun k => spec_PatchOf.l2 k l a2 a3 out copies (y : Int) (x : Int) (l.length : Int) w s h (x : Int) (y : Int) v.1 v.2) r) :
    Evt (fun k => spec_PatchOf.l2 k l a2 a3 out copies (y : Int) (x : Int) 0 w s h (x : Int) (y : Int) 0 0) r := by
  have key := Evt.upS (g := fun k i (v : Int × Int) => spec_PatchOf.l2 k l a2 a3 out copies (y : Int) (x : Int) (i : Int) w s h (x : Int) (y : Int) v.1 v.2) (R := fun _ _ => r) (P := fun i v => vecS w s h (cm x y w s h) x y (l.drop i) v = vecS w s h (cm x y w s h) x y l (0, 0)) (n := l.length) ?_ ?_ 0 (0, 0) (Nat.zero_le _) rfl
  · exact key
  · rintro v hv
    rw [List.drop_length, vecS] at hv
    exact hfin v hv
  · rintro i v hi hv ih
    have hb := hs (l.getD i z43) (by rw [List.getD_eq_getElem?_getD, List.getElem?_eq_getElem hi]; exact List.getElem_mem hi)
    refine Evt.step (fun k => rfl) ?_
    simp only [spec_PatchOf.l2, rd_getD, l24Cell_eq hL hb.1.1 hb.1.2 hb.2.1 hb.2.2, l24Cell_eq (x := (x : Int)) (y := (y : Int)) hL (by omega) (by omega) (by omega) (by omega), Option.bind_some]
    rw [drop_getD l i z43 hi, vecS] at hv
    refine Evt.ite_pos (by omega) (Evt.ite_pos (by omega) ?_)
    rw [wrap_succ hi (by omega)]
    by_cases e : key w s h (l.getD i z43) = cm x y w s h
    · rw [if_pos e] at hv
      have e2 : cm (l.getD i z43).f0 (l.getD i z43).f1 w s h = cm x y w s h := e
      refine Evt.ite_pos (by rw [e2]; simp) ?_
      exact ih (wrap64 ((x : Int) - (l.getD i z43).f0), wrap64 ((y : Int) - (l.getD i z43).f1)) hv
    · rw [if_neg e] at hv
      have e2 : ¬ cm (l.getD i z43).f0 (l.getD i z43).f1 w s h = cm x y w s h := e
      refine Evt.ite_neg (fun c => e2 ?_) (ih v hv)
      simp only [Bool.and_eq_true, beq_iff_eq] at c
      exact Prod.ext c.1 c.2
theorem rows_spec {l : List Cell} {w s h : Int} (hL : Lat w s h = true) (hs : Small l) (hl : l.length ≤ 1048576) {wide high : Nat} (hw : wide ≤ 20) (hh : high ≤ 20) : ∀ (n y : Nat) (copies : List Cell) (out : List Int), y + n = high → out.length ≤ 21 * y → copies.length ≤ 20 * y →
    Evt (fun k => spec_PatchOf.l0 k l (wide : Int) (high : Int) out copies (y : Int) w s h) (strOfNums (rowsS l w s h wide n y copies out), 0)
  | 0, y, copies, out, hn, ho, hc => by
    refine Evt.step (fun k => rfl) ?_
    simp only [spec_PatchOf.l0]
    exact Evt.ite_neg (by omega) Evt.pure
  | n + 1, y, copies, out, hn, ho, hc => by
    rw [rowsS]
    have row : ∀ (m x : Nat) (cs : List Cell) (os : List Int), x + m = wide → os.length ≤ 21 * y + 1 + x → cs.length ≤ 20 * y + x → Evt (fun k => spec_PatchOf.l1 k l (wide : Int) (high : Int) os cs (y : Int) (x : Int) w s h) (strOfNums (rowsS l w s h wide n (y + 1) (rowS l w s h y m x cs os).1 (rowS l w s h y m x cs os).2), 0) := by
      intro m
      induction m with
      | zero =>
        intro x cs os hm ho hc
        refine Evt.step (fun k => rfl) ?_
        simp only [spec_PatchOf.l1]
        refine Evt.ite_neg (by omega) ?_
        rw [rowS, show wrap64 ((y : Int) + 1) = ((y + 1 : Nat) : Int) by unfold wrap64; omega]
        exact rows_spec hL hs hl hw hh n (y + 1) cs os (by omega) (by omega) (by omega)
      | succ m ih =>
        intro x cs os hm ho hc
        rw [rowS]
        refine Evt.step (fun k => rfl) ?_
        simp only [spec_PatchOf.l1]
        refine Evt.ite_pos (by omega) (vecS_loop hL hs hl _ _ os cs (by omega) (by omega) ?_)
        rintro v hv
        rw [← hv]
        have hlt := ixP_lt v cs 0
        have hcl := cop_len cs v
        refine Evt.step (fun k => rfl) ?_
        simp only [spec_PatchOf.l2]
        refine Evt.ite_neg (by omega) ((l02Index_eq cs v.1 v.2 (by omega)).bind ?_)
        have e : ∀ t : List Cell, ixAt (v.1, v.2) 0 t = ixAt v 0 t := fun t => rfl
        rw [e]
        by_cases hi : ixAt v 0 cs < 0
        · have ec : cop cs v = cs ++ [cc v] := by unfold cop; rw [if_pos hi]
          have hin : 0 ≤ ixAt v 0 (cs ++ [cc v]) := (ixAt_mem v _ 0).2 (by simp)
          have hlt2 := ixP_lt v (cs ++ [cc v]) 0
          rw [List.length_append, List.length_singleton] at hlt2
          refine Evt.ite_pos hi (Evt.ite_pos (by omega) ?_)
          simp only [Option.bind_some]
          have e3 : (⟨v.1, v.2⟩ : Cell) = cc v := rfl
          rw [e3]
          refine (l02Index_eq (cs ++ [cc v]) v.1 v.2 (by simp; omega)).bind (Evt.ite_pos (by omega) ?_)
          rw [e, letter_eq hin (by omega), ec, show wrap64 ((x : Int) + 1) = ((x + 1 : Nat) : Int) by unfold wrap64; omega]
          exact ih (x + 1) _ _ (by omega) (by simp; omega) (by simp; omega)
        · have ec : cop cs v = cs := by unfold cop; rw [if_neg hi]
          refine Evt.ite_neg hi ((l02Index_eq cs v.1 v.2 (by omega)).bind (Evt.ite_pos (by omega) ?_))
          rw [e, letter_eq (by omega) (by omega), ec, show wrap64 ((x : Int) + 1) = ((x + 1 : Nat) : Int) by unfold wrap64; omega]
          exact ih (x + 1) _ _ (by omega) (by simp; omega) (by omega)
    refine Evt.step (fun k => rfl) ?_
    simp only [spec_PatchOf.l0]
    refine Evt.ite_pos (by omega) ?_
    by_cases hy : 0 < y
    · rw [if_pos hy]
      refine Evt.ite_pos (by omega) (Evt.ite_pos (by omega) (Evt.step (fun k => rfl) ?_))
      simp only [spec_PatchOf.j2]
      exact row wide 0 copies (out ++ [47]) (by omega) (by simp; omega) (by omega)
    · rw [if_neg hy]
      refine Evt.ite_neg (by omega) (Evt.step (fun k => rfl) ?_)
      simp only [spec_PatchOf.j2]
      exact row wide 0 copies out (by omega) (by omega) (by omega)
def Pch (l : List Cell) (w s h a2 a3 : Int) (r : ByteArray × Int) : Prop := r.2 = 0 → ∃ W H : Nat, a2 = (W : Int) ∧ a3 = (H : Int) ∧ (1 ≤ W ∧ W ≤ 20) ∧ (1 ≤ H ∧ H ≤ 20) ∧ r.1 = strOfNums (rowsS l w s h W H 0 [] [])
theorem Pch.no {l : List Cell} {w s h a2 a3 : Int} {b : ByteArray} {c : Int} (h0 : c ≠ 0) : Pch l w s h a2 a3 (b, c) := fun e => absurd e h0
theorem patch_both {l : List Cell} (hl : l.length ≤ 1048576) (w s h a2 a3 : Int) : ∃ r : ByteArray × Int, Evt (fun k => spec_PatchOf.f k l w s h a2 a3) r ∧ Evt (fun k => impl_PatchOf.f k l w s h a2 a3) r ∧ Pch l w s h a2 a3 r := by
  unfold spec_PatchOf.f impl_PatchOf.f
  cases hS : Sh l with
  | false =>
    have h1 := spec_IsShape_eq l (by omega)
    have h2 := impl_IsShape_eq l (by omega)
    rw [hS] at h1 h2
    exact ⟨_, h1.bind (Evt.ite_neg (by simp) Evt.pure), h2.bind (Evt.ite_neg (by simp) Evt.pure), Pch.no (by omega)⟩
  | true =>
    have h1 := spec_IsShape_eq l (by omega)
    have h2 := impl_IsShape_eq l (by omega)
    rw [hS] at h1 h2
    have hs := Sh_small hS
    suffices hh : ∃ r : ByteArray × Int, Evt (fun k => (spec_IsLattice.f w s h).bind fun t138 => (if t138 = true then ((spec_l01In.f a2 1 20).bind fun t139 => (if t139 = true then ((spec_l01In.f a3 1 20).bind fun t140 => (spec_PatchOf.j0 k l a2 a3 (!t140) w s h)) else (spec_PatchOf.j0 k l a2 a3 true w s h))) else (spec_PatchOf.j0 k l a2 a3 true w s h))) r ∧
        Evt (fun _ => (impl_IsLattice.f w s h).bind fun q => if q = true then (impl_within.f a2 1 20).bind fun u => if u = true then (impl_within.f a3 1 20).bind fun v => if v = true then
    (impl_Lattice_tiles.f w s h l).bind fun t => if t = true then (if 0 ≤ a2 ∧ a2 ≤ 20 ∧ 0 ≤ a3 ∧ a3 ≤ 20 then (impl_PatchOf.o w s h l []).bind fun own => (impl_PatchOf.rows w s h own a2.toNat a3.toNat 0 [] []).bind fun out => some (strOfNums out, 0) else none)
      else some ((⟨#[]⟩ : ByteArray), 5) else some ((⟨#[]⟩ : ByteArray), 2) else some ((⟨#[]⟩ : ByteArray), 2) else some ((⟨#[]⟩ : ByteArray), 2)) r ∧ Pch l w s h a2 a3 r by
      obtain ⟨r, r1, r2, r3⟩ := hh
      exact ⟨r, h1.bind (Evt.ite_pos rfl r1), h2.bind (Evt.ite_pos rfl r2), r3⟩
    have bad : Evt (fun k => spec_PatchOf.j0 k l a2 a3 true w s h) ((⟨#[]⟩ : ByteArray), 2) := by
      refine Evt.step (fun k => rfl) ?_
      simp only [spec_PatchOf.j0]
      exact Evt.ite_pos trivial Evt.pure
    rw [isLattice_spec, isLattice_impl, in_eq, in_eq, within_eq, within_eq]
    simp only [Option.bind_some]
    cases hL : Lat w s h with
    | false => exact ⟨_, Evt.ite_neg (by simp) bad, Evt.ite_neg (by simp) Evt.pure, Pch.no (by omega)⟩
    | true =>
      by_cases c2 : 1 ≤ a2 ∧ a2 ≤ 20
      case neg => exact ⟨_, Evt.ite_pos rfl (Evt.ite_neg (by simpa using c2) bad), Evt.ite_pos rfl (Evt.ite_neg (by simpa using c2) Evt.pure), Pch.no (by omega)⟩
      by_cases c3 : 1 ≤ a3 ∧ a3 ≤ 20
      case neg =>
        refine ⟨_, Evt.ite_pos rfl (Evt.ite_pos (by simpa using c2) ?_), Evt.ite_pos rfl (Evt.ite_pos (by simpa using c2) (Evt.ite_neg (by simpa using c3) Evt.pure)), Pch.no (by omega)⟩
        rw [decide_eq_false c3]
        exact bad
      obtain ⟨W, rfl⟩ := Int.eq_ofNat_of_zero_le (show 0 ≤ a2 by omega)
      obtain ⟨H, rfl⟩ := Int.eq_ofNat_of_zero_le (show 0 ≤ a3 by omega)
      have ht1 := l24Tiles_eq l hL hs (by have := (Sh_len hS).2; omega)
      have ht2 := tiles_eq l hL hs
      cases hT : til l w s h with
      | false =>
        rw [hT] at ht1 ht2
        refine ⟨((⟨#[]⟩ : ByteArray), 5), Evt.ite_pos rfl (Evt.ite_pos (by simpa using c2) ?_), Evt.ite_pos rfl (Evt.ite_pos (by simpa using c2) (Evt.ite_pos (by simpa using c3) ?_)), Pch.no (by omega)⟩
        · rw [decide_eq_true c3]
          refine Evt.step (fun k => rfl) ?_
          simp only [spec_PatchOf.j0]
          exact Evt.ite_neg (by simp) (ht1.bind (Evt.ite_neg (by simp) Evt.pure))
        · rw [ht2]
          simp only [Option.bind_some]
          exact Evt.ite_neg (by simp) Evt.pure
      | true =>
        rw [hT] at ht1 ht2
        refine ⟨(strOfNums (rowsS l w s h W H 0 [] []), 0), Evt.ite_pos rfl (Evt.ite_pos (by simpa using c2) ?_), Evt.ite_pos rfl (Evt.ite_pos (by simpa using c2) (Evt.ite_pos (by simpa using c3) ?_)), fun _ => ⟨W, H, rfl, rfl, by omega, by omega, rfl⟩⟩
        · rw [decide_eq_true c3]
          refine Evt.step (fun k => rfl) ?_
          simp only [spec_PatchOf.j0]
          exact Evt.ite_neg (by simp) (ht1.bind (Evt.ite_pos (by first | rfl | trivial) (rows_spec hL hs hl (by omega) (by omega) H 0 [] [] (by omega) (by simp) (by simp))))
        · rw [ht2]
          simp only [Option.bind_some]
          refine Evt.ite_pos (by first | rfl | trivial) (Evt.ite_pos ⟨by omega, by omega, by omega, by omega⟩ ?_)
          rw [own_eq hL l [] hs]
          simp only [Option.bind_some, Int.toNat_natCast]
          rw [rows_eq hL hT (by omega) H 0 [] [] [] Inv.none (by omega) (by simp) (by simp)]
          exact Evt.pure
end Go.Proofs.Ytpinaeegopdknaa.Pure
end
section
namespace Go.Proofs.Ytpinaeegopdknaa.Pure
open Go.RowKit Go.Proofs.Ytpinaeegopdknaa Go.Proofs.Ytpinaeegopdknaa.Q Go.Proofs.YtpinaeegopdknaaW.PrintWords
set_option linter.unusedVariables false
set_option linter.unusedSimpArgs false
theorem getD_cell (l : List Cell) (i : Nat) : (⟨(l.getD i z43).f0, (l.getD i z43).f1⟩ : Cell) = l.getD i z43 := rfl
def ins (c : Cell) : List Cell → List Cell
  | [] => [c]
  | d :: r => if lessC c d = true then c :: d :: r else d :: ins c r
theorem ins_perm (c : Cell) : ∀ l : List Cell, (ins c l).Perm (c :: l)
  | [] => List.Perm.refl _
  | d :: r => by
    unfold ins
    by_cases h : lessC c d = true
    · rw [if_pos h]
    · rw [if_neg h]
      exact ((ins_perm c r).cons d).trans (List.Perm.swap _ _ _)
theorem ins_len (c : Cell) (l : List Cell) : (ins c l).length = l.length + 1 := (ins_perm c l).length_eq
theorem ins_mem {c d : Cell} {l : List Cell} : d ∈ ins c l ↔ d = c ∨ d ∈ l := by rw [(ins_perm c l).mem_iff, List.mem_cons]
theorem insert_done (l : List Cell) (x y : Int) (hl : l.length ≤ 1000000) : ∀ (i : Nat) (out : List Cell), i ≤ l.length → out.length = i + 1 → Evt (fun k => spec_l02Insert.l0 k l out true (i : Int) x y) (out ++ l.drop i) := by
  refine Evt.upS (g := fun k i out => spec_l02Insert.l0 k l out true (i : Int) x y) (R := fun i out => out ++ l.drop i) (P := fun i out => out.length = i + 1) ?_ ?_
  · intro out _
    refine Evt.step (fun k => rfl) ?_
    simp only [spec_l02Insert.l0]
    refine Evt.ite_neg (by omega) (Evt.ite_pos trivial ?_)
    rw [List.drop_length, List.append_nil]
    exact Evt.pure
  · intro i out hi hp ih
    refine Evt.step (fun k => rfl) ?_
    simp only [spec_l02Insert.l0, rd_getD, getD_cell]
    refine Evt.ite_pos (by omega) (Evt.ite_pos trivial (Evt.ite_pos (by omega) (Evt.ite_pos (by omega) ?_)))
    rw [wrap_succ hi (by omega), drop_getD l i z43 hi]
    have := ih (out ++ [l.getD i z43]) (by simp [hp])
    rw [List.append_assoc] at this
    exact this
theorem l02Insert_eq (l : List Cell) (c : Cell) (hl : l.length ≤ 1000000) : Evt (fun k => spec_l02Insert.f k l c.f0 c.f1) (ins c l) := by
  unfold spec_l02Insert.f
  have h := Evt.upS (g := fun k i out => spec_l02Insert.l0 k l out false (i : Int) c.f0 c.f1) (R := fun i out => out ++ ins c (l.drop i)) (P := fun i out => out.length = i) (n := l.length) ?_ ?_ 0 [] (Nat.zero_le _) rfl
  · exact h
  · intro out hp
    refine Evt.step (fun k => rfl) ?_
    simp only [spec_l02Insert.l0]
    refine Evt.ite_neg (by omega) (Evt.ite_neg (by simp) (Evt.ite_pos (by omega) ?_))
    rw [List.drop_length]
    exact Evt.pure
  · intro i out hi hp ih
    refine Evt.step (fun k => rfl) ?_
    simp only [spec_l02Insert.l0, rd_getD, getD_cell, l02Less_eq, Option.bind_some]
    refine Evt.ite_pos (by omega) (Evt.ite_neg (by simp) (Evt.ite_pos (by omega) ?_))
    rw [drop_getD l i z43 hi, wrap_succ hi (by omega)]
    unfold ins
    by_cases hc : lessC c (l.getD i z43) = true
    · rw [if_pos hc]
      refine Evt.ite_pos hc (Evt.ite_pos (by omega) (Evt.ite_pos (by simp; omega) ?_))
      have := insert_done l c.f0 c.f1 hl (i + 1) ((out ++ [c]) ++ [l.getD i z43]) (by omega) (by simp [hp])
      rw [List.append_assoc, List.append_assoc] at this
      rw [List.append_assoc]
      exact this
    · rw [if_neg hc]
      refine Evt.ite_neg hc (Evt.ite_pos (by omega) ?_)
      have := ih (out ++ [l.getD i z43]) (by simp [hp])
      rw [List.append_assoc] at this
      exact this
def sortC (l : List Cell) : List Cell := l.foldl (fun acc c => ins c acc) []
theorem foldl_ins_len (l acc : List Cell) : (l.foldl (fun acc c => ins c acc) acc).length = acc.length + l.length := by
  induction l generalizing acc with
  | nil => rfl
  | cons c r ih => rw [List.foldl_cons, ih, ins_len]; simp; omega
theorem sortC_len (l : List Cell) : (sortC l).length = l.length := by
  unfold sortC
  rw [foldl_ins_len]
  simp
theorem foldl_ins_perm (l acc : List Cell) : (l.foldl (fun acc c => ins c acc) acc).Perm (l ++ acc) := by
  induction l generalizing acc with
  | nil => exact List.Perm.refl _
  | cons c r ih =>
    rw [List.foldl_cons]
    refine (ih (ins c acc)).trans ?_
    refine ((ins_perm c acc).append_left r).trans ?_
    exact List.perm_middle
theorem sortC_perm (l : List Cell) : (sortC l).Perm l := by
  have := foldl_ins_perm l []
  rw [List.append_nil] at this
  exact this
def movC (l : List Cell) (x y : Int) : List Cell := l.map fun c => ⟨c.f0 + x, c.f1 + y⟩
theorem movC_len (l : List Cell) (x y : Int) : (movC l x y).length = l.length := by simp [movC]
def In (b : Int) (l : List Cell) : Prop := ∀ c ∈ l, (-b ≤ c.f0 ∧ c.f0 ≤ b) ∧ -b ≤ c.f1 ∧ c.f1 ≤ b
theorem In.at {b : Int} {l : List Cell} (h : In b l) (i : Nat) (hi : i < l.length) : (-b ≤ (l.getD i z43).f0 ∧ (l.getD i z43).f0 ≤ b) ∧ -b ≤ (l.getD i z43).f1 ∧ (l.getD i z43).f1 ≤ b :=
  h _ (by rw [List.getD_eq_getElem?_getD, List.getElem?_eq_getElem hi]; exact List.getElem_mem hi)
theorem movC_drop (l : List Cell) (x y : Int) (i : Nat) (hi : i < l.length) : movC (l.drop i) x y = (⟨(l.getD i z43).f0 + x, (l.getD i z43).f1 + y⟩ : Cell) :: movC (l.drop (i + 1)) x y := by
  rw [drop_getD l i z43 hi]
  rfl
theorem l02Move_eq (l : List Cell) (x y : Int) (hl : l.length ≤ 1000000) (hi : In 1000000000 l) (hx : -1000000000 ≤ x ∧ x ≤ 1000000000) (hy : -1000000000 ≤ y ∧ y ≤ 1000000000) : Evt (fun k => spec_l02Move.f k l x y) (movC l x y) := by
  unfold spec_l02Move.f
  have h := Evt.upS (g := fun k i acc => spec_l02Move.l0 k l x y acc (i : Int)) (R := fun i acc => acc ++ movC (l.drop i) x y) (P := fun i acc => acc.length = i) (n := l.length) ?_ ?_ 0 [] (Nat.zero_le _) rfl
  · exact h
  · intro out hp
    refine Evt.step (fun k => rfl) ?_
    simp only [spec_l02Move.l0]
    refine Evt.ite_neg (by omega) ?_
    rw [List.drop_length]
    exact Evt.const (by simp [movC])
  · intro i acc hi2 hp ih
    have hb := In.at hi i hi2
    refine Evt.step (fun k => rfl) ?_
    simp only [spec_l02Move.l0, rd_getD]
    refine Evt.ite_pos (by omega) (Evt.ite_pos (by omega) (Evt.ite_pos (by omega) ?_))
    rw [w64 (n := (l.getD i z43).f0 + x) (by omega) (by omega), w64 (n := (l.getD i z43).f1 + y) (by omega) (by omega), wrap_succ hi2 (by omega), movC_drop l x y i hi2]
    have := ih (acc ++ [⟨(l.getD i z43).f0 + x, (l.getD i z43).f1 + y⟩]) (by simp [hp])
    rw [List.append_assoc] at this
    exact this
def leastF (l : List Cell) (p : Int × Int) : Int × Int := l.foldl (fun p c => (mn p.1 c.f0, mn p.2 c.f1)) p
def leastC (l : List Cell) : Int × Int := leastF (l.drop 1) ((l.getD 0 z43).f0, (l.getD 0 z43).f1)
theorem l02Least_eq (l : List Cell) (h0 : l ≠ []) (hl : l.length ≤ 1000000) : Evt (fun k => spec_l02Least.f k l) (leastC l) := by
  have hp : 0 < l.length := List.length_pos_iff.2 h0
  unfold spec_l02Least.f
  refine Evt.ite_pos (by omega) ?_
  have h := Evt.upS (g := fun k i (p : Int × Int) => spec_l02Least.l0 k l p.1 p.2 (i : Int)) (R := fun i p => leastF (l.drop i) p) (P := fun _ _ => True) (n := l.length) ?_ ?_ 1 ((l.getD 0 z43).f0, (l.getD 0 z43).f1) hp trivial
  · exact h
  · rintro ⟨a, b⟩ _
    refine Evt.step (fun k => rfl) ?_
    simp only [spec_l02Least.l0]
    refine Evt.ite_neg (by omega) ?_
    rw [List.drop_length]
    exact Evt.pure
  · rintro i ⟨a, b⟩ hi _ ih
    refine Evt.step (fun k => rfl) ?_
    simp only [spec_l02Least.l0, rd_getD]
    refine Evt.ite_pos (by omega) (Evt.ite_pos (by omega) ?_)
    rw [wrap_succ hi (by omega), drop_getD l i z43 hi]
    exact ih (mn a (l.getD i z43).f0, mn b (l.getD i z43).f1) trivial
theorem leastF_le (l : List Cell) (p : Int × Int) : (leastF l p).1 ≤ p.1 ∧ (leastF l p).2 ≤ p.2 ∧ ∀ c ∈ l, (leastF l p).1 ≤ c.f0 ∧ (leastF l p).2 ≤ c.f1 := by
  induction l generalizing p with
  | nil => exact ⟨Int.le_refl _, Int.le_refl _, by simp⟩
  | cons c r ih =>
    obtain ⟨a, b, h⟩ := ih (mn p.1 c.f0, mn p.2 c.f1)
    unfold leastF at *
    rw [List.foldl_cons]
    simp only at a b
    have m1 : mn p.1 c.f0 ≤ p.1 ∧ mn p.1 c.f0 ≤ c.f0 := by unfold mn; omega
    have m2 : mn p.2 c.f1 ≤ p.2 ∧ mn p.2 c.f1 ≤ c.f1 := by unfold mn; omega
    refine ⟨by omega, by omega, fun d hd => ?_⟩
    rcases List.mem_cons.1 hd with rfl | hd
    · omega
    · exact h d hd
theorem leastF_ge (l : List Cell) (p : Int × Int) (b : Int) (hp : b ≤ p.1 ∧ b ≤ p.2) (h : ∀ c ∈ l, b ≤ c.f0 ∧ b ≤ c.f1) : b ≤ (leastF l p).1 ∧ b ≤ (leastF l p).2 := by
  induction l generalizing p with
  | nil => exact hp
  | cons c r ih =>
    unfold leastF at *
    rw [List.foldl_cons]
    have hc := h c List.mem_cons_self
    exact ih _ (by unfold mn; simp only; omega) (fun d hd => h d (List.mem_cons_of_mem _ hd))
theorem leastC_le {l : List Cell} : ∀ c ∈ l, (leastC l).1 ≤ c.f0 ∧ (leastC l).2 ≤ c.f1 := by
  intro c hc
  cases l with
  | nil => cases hc
  | cons d r =>
    have h := leastF_le r (d.f0, d.f1)
    have e : leastC (d :: r) = leastF r (d.f0, d.f1) := rfl
    rw [e]
    rcases List.mem_cons.1 hc with rfl | hc
    · exact ⟨h.1, h.2.1⟩
    · exact h.2.2 c hc
theorem leastC_in {l : List Cell} {b : Int} (h0 : l ≠ []) (h : In b l) : (-b ≤ (leastC l).1 ∧ (leastC l).1 ≤ b) ∧ -b ≤ (leastC l).2 ∧ (leastC l).2 ≤ b := by
  cases l with
  | nil => exact absurd rfl h0
  | cons d r =>
    have hd := h d List.mem_cons_self
    have h1 := leastC_le (l := d :: r) d List.mem_cons_self
    have e : leastC (d :: r) = leastF r (d.f0, d.f1) := rfl
    have h2 := leastF_ge r (d.f0, d.f1) (-b) ⟨hd.1.1, hd.2.1⟩ (fun c hc => ⟨(h c (List.mem_cons_of_mem _ hc)).1.1, (h c (List.mem_cons_of_mem _ hc)).2.1⟩)
    rw [← e] at h2
    omega
def normC (l : List Cell) : List Cell := movC l (-(leastC l).1) (-(leastC l).2)
theorem l02Normal_eq (l : List Cell) (h0 : l ≠ []) (hl : l.length ≤ 1000000) (hi : In 1000000 l) : Evt (fun k => spec_l02Normal.f k l) (normC l) := by
  unfold spec_l02Normal.f
  have hb := leastC_in h0 hi
  refine (l02Least_eq l h0 hl).bind ?_
  rw [w64 (by omega) (by omega), w64 (by omega) (by omega)]
  exact (l02Move_eq l _ _ hl (fun c hc => by have := hi c hc; omega) (by omega) (by omega)).bind Evt.pure
def arC (c : Cell) : List Cell := [⟨c.f0, c.f1 - 1⟩, ⟨c.f0 - 1, c.f1⟩, ⟨c.f0 + 1, c.f1⟩, ⟨c.f0, c.f1 + 1⟩]
instance : DecidableEq Cell := fun a b => if h : a.f0 = b.f0 ∧ a.f1 = b.f1 then isTrue (by cases a; cases b; simp at h; rw [h.1, h.2]) else isFalse (fun e => h (by rw [e]; exact ⟨rfl, rfl⟩))
def nbStep (l : List Cell) (out : List Cell) (d : Cell) : List Cell := if d ∈ l then out else if d ∈ out then out else ins d out
def nbC (l : List Cell) : List Cell := l.foldl (fun out c => (arC c).foldl (nbStep l) out) []
theorem ar_eq (c : Cell) (h : (-1000000 ≤ c.f0 ∧ c.f0 ≤ 1000000) ∧ -1000000 ≤ c.f1 ∧ c.f1 ≤ 1000000) : spec_l02Around.f c.f0 c.f1 = some (arC c) := by
  unfold spec_l02Around.f arC
  rw [w64 (by omega) (by omega), w64 (by omega) (by omega), w64 (by omega) (by omega), w64 (by omega) (by omega)]
theorem nbStep_len (l out : List Cell) (d : Cell) : out.length ≤ (nbStep l out d).length ∧ (nbStep l out d).length ≤ out.length + 1 := by
  unfold nbStep
  split
  · omega
  · split
    · omega
    · rw [ins_len]; omega
theorem ixAt_lt (d : Cell) (l : List Cell) : ixAt (d.f0, d.f1) 0 l < 0 ↔ d ∉ l := by
  have h := ixAt_mem (d.f0, d.f1) l 0
  have e : cc (d.f0, d.f1) = d := rfl
  rw [e] at h
  rw [← h]
  omega
theorem nb_loop (l : List Cell) (hl : l.length ≤ 100000) (hi : In 1000000 l) : ∀ (i : Nat) (out : List Cell), i ≤ l.length → out.length ≤ 4 * i → Evt (fun k => spec_l02Neighbours.l0 k l out (i : Int)) ((l.drop i).foldl (fun out c => (arC c).foldl (nbStep l) out) out) := by
  refine Evt.upS (g := fun k i out => spec_l02Neighbours.l0 k l out (i : Int)) (R := fun i out => (l.drop i).foldl (fun out c => (arC c).foldl (nbStep l) out) out) (P := fun i out => out.length ≤ 4 * i) ?_ ?_
  · intro out _
    refine Evt.step (fun k => rfl) ?_
    simp only [spec_l02Neighbours.l0]
    refine Evt.ite_neg (by omega) ?_
    rw [List.drop_length]
    exact Evt.pure
  · intro i out hi2 hp ih
    have hb := In.at hi i hi2
    refine Evt.step (fun k => rfl) ?_
    simp only [spec_l02Neighbours.l0, rd_getD, ar_eq _ hb, Option.bind_some]
    refine Evt.ite_pos (by omega) (Evt.ite_pos (by omega) ?_)
    rw [drop_getD l i z43 hi2, List.foldl_cons]
    have ha : (arC (l.getD i z43)).length = 4 := rfl
    generalize arC (l.getD i z43) = a at ha ⊢
    have h := Evt.upS (g := fun k j (o : List Cell) => spec_l02Neighbours.l1 k l o (i : Int) a (j : Int)) (R := fun j o => (l.drop (i + 1)).foldl (fun out c => (arC c).foldl (nbStep l) out) ((a.drop j).foldl (nbStep l) o)) (P := fun j o => o.length ≤ 4 * i + j) (n := 4) ?_ ?_ 0 out (Nat.zero_le _) hp
    · exact h
    · intro o ho
      refine Evt.step (fun k => rfl) ?_
      simp only [spec_l02Neighbours.l1]
      refine Evt.ite_neg (by omega) ?_
      rw [wrap_succ hi2 (by omega), List.drop_of_length_le (by omega : a.length ≤ 4)]
      exact ih o (by omega)
    · intro j o hj ho ihj
      refine Evt.step (fun k => rfl) ?_
      simp only [spec_l02Neighbours.l1, rd_getD]
      refine Evt.ite_pos (by omega) (Evt.ite_pos (by omega) (Evt.ite_pos (by omega) ?_))
      rw [drop_getD a j z43 (by omega), List.foldl_cons]
      have hs := nbStep_len l o (a.getD j z43)
      have ihj' := ihj (nbStep l o (a.getD j z43)) (by omega)
      have ew : wrap64 ((j : Int) + 1) = ((j + 1 : Nat) : Int) := by rw [w64 (by omega) (by omega)]; omega
      rw [ew]
      refine (l02Index_eq l _ _ (by omega)).bind ?_
      unfold nbStep at ihj' ⊢
      by_cases h1 : a.getD j z43 ∈ l
      · rw [if_pos h1] at ihj' ⊢
        exact Evt.ite_neg (by rw [ixAt_lt]; exact fun h => h h1) ihj'
      · rw [if_neg h1] at ihj' ⊢
        refine Evt.ite_pos ((ixAt_lt _ _).2 h1) ?_
        refine (l02Index_eq o _ _ (by omega)).bind ?_
        by_cases h2 : a.getD j z43 ∈ o
        · rw [if_pos h2] at ihj' ⊢
          exact Evt.ite_neg (by rw [ixAt_lt]; exact fun h => h h2) ihj'
        · rw [if_neg h2] at ihj' ⊢
          refine Evt.ite_pos ((ixAt_lt _ _).2 h2) ?_
          exact (l02Insert_eq o (a.getD j z43) (by omega)).bind ihj'
theorem l02Neighbours_eq (l : List Cell) (hl : l.length ≤ 100000) (hi : In 1000000 l) : Evt (fun k => spec_l02Neighbours.f k l) (nbC l) := by
  unfold spec_l02Neighbours.f
  exact nb_loop l hl hi 0 [] (Nat.zero_le _) (by simp)
end Go.Proofs.Ytpinaeegopdknaa.Pure
end
section
namespace Go.Proofs.Ytpinaeegopdknaa.Pure
open Go.RowKit Go.Proofs.Ytpinaeegopdknaa Go.Proofs.Ytpinaeegopdknaa.Q Go.Proofs.YtpinaeegopdknaaW.PrintWords
set_option linter.unusedVariables false
set_option linter.unusedSimpArgs false
theorem l02Sort_eq (l : List Cell) (hl : l.length ≤ 500000) : Evt (fun k => spec_l02Sort.f k l) (sortC l) := by
  unfold spec_l02Sort.f
  have h := Evt.upS (g := fun k i acc => spec_l02Sort.l0 k l acc (i : Int)) (R := fun i acc => (l.drop i).foldl (fun acc c => ins c acc) acc) (P := fun i acc => acc.length = i) (n := l.length) ?_ ?_ 0 [] (Nat.zero_le _) rfl
  · exact h
  · intro out hp
    refine Evt.step (fun k => rfl) ?_
    simp only [spec_l02Sort.l0]
    refine Evt.ite_neg (by omega) ?_
    rw [List.drop_length]
    exact Evt.pure
  · intro i acc hi hp ih
    refine Evt.step (fun k => rfl) ?_
    simp only [spec_l02Sort.l0, rd_getD]
    refine Evt.ite_pos (by omega) (Evt.ite_pos (by omega) ?_)
    refine (l02Insert_eq acc (l.getD i z43) (by omega)).bind ?_
    rw [drop_getD l i z43 hi, wrap_succ hi (by omega)]
    exact ih _ (by rw [ins_len, hp])
end Go.Proofs.Ytpinaeegopdknaa.Pure
end
section
namespace Go.Proofs.Ytpinaeegopdknaa.Pure
open Go.RowKit Go.Proofs.Ytpinaeegopdknaa Go.Proofs.Ytpinaeegopdknaa.Q Go.Proofs.YtpinaeegopdknaaW.PrintWords
set_option linter.unusedVariables false
set_option linter.unusedSimpArgs false
def Bytes (l : List Int) : Prop := l.length ≤ 4096 ∧ ∀ x ∈ l, 0 ≤ x ∧ x ≤ 255
theorem Bytes.at_ {l : List Int} (h : Bytes l) (i : Int) : 0 ≤ rd l i ∧ rd l i ≤ 255 := by
  unfold rd
  rw [List.getD_eq_getElem?_getD]
  by_cases hi : i.toNat < l.length
  · rw [List.getElem?_eq_getElem hi]
    exact h.2 _ (List.getElem_mem hi)
  · rw [List.getElem?_eq_none (by omega)]
    simp
structure Src (l : List Int) (a s : Int) : Prop where
  a0 : 0 ≤ a
  a1 : a ≤ l.length
  s0 : 0 ≤ s
  s1 : s ≤ 2147483646
theorem bytes_of {l : List Int} (h : ∀ x ∈ l, (Lit.int .u8 x).wf = true) (hl : l.length ≤ 4096) : Bytes l := ⟨hl, fun x hx => by
  have h1 : (decide ((0 : Int) ≤ x) && decide (x ≤ (255 : Int))) = true := h x hx
  simpa using h1⟩
theorem seed_in {x : Int} (h0 : 0 ≤ x) (h1 : x ≤ 9223372036854775807) : 0 ≤ Int.tmod x 2147483647 ∧ Int.tmod x 2147483647 ≤ 2147483646 := by
  rw [Int.tmod_eq_emod_of_nonneg h0]
  omega
theorem next_any {l : List Int} {a s : Int} (hb : Bytes l) (h : Src l a s) (n : Int) :
    ∃ r a' s', spec_l01Next.f l a s n = some (r, a', s') ∧ Src l a' s' ∧ 0 ≤ r ∧ (1 ≤ n → r < n) ∧ (n ≤ 1 → r = 0) := by
  obtain ⟨a0, a1, s0, s1⟩ := h
  have hl := hb.1
  unfold spec_l01Next.f
  by_cases h1 : n ≤ 1
  · rw [if_pos h1]
    exact ⟨0, a, s, rfl, ⟨a0, a1, s0, s1⟩, Int.le_refl _, fun _ => by omega, fun _ => rfl⟩
  · rw [if_neg h1]
    have hsd := seed_in (x := wrap64 (wrap64 (s * 48271) + 29)) (by rw [w64 (n := s * 48271) (by omega) (by omega), w64 (by omega) (by omega)]; omega) (by rw [w64 (n := s * 48271) (by omega) (by omega), w64 (by omega) (by omega)]; omega)
    generalize Int.tmod (wrap64 (wrap64 (s * 48271) + 29)) 2147483647 = s' at hsd ⊢
    have hx : wrap64 (Int.tdiv s' 31) = s' / 31 := by rw [Int.tdiv_eq_ediv_of_nonneg hsd.1, w64 (by omega) (by omega)]
    have tm : ∀ x : Int, 0 ≤ x → 0 ≤ Int.tmod x n ∧ Int.tmod x n < n := fun x hx => by
      rw [Int.tmod_eq_emod_of_nonneg hx]
      exact ⟨Int.emod_nonneg _ (by omega), Int.emod_lt_of_pos _ (by omega)⟩
    by_cases h2 : a < (l.length : Int)
    · rw [if_pos h2, if_pos a0]
      have hr := hb.at_ a
      have hw : wrap64 (rd l a) = rd l a := w64 (by omega) (by omega)
      by_cases h3 : n ≤ 256 ∧ (a + 1) % 2 = 0
      · rw [if_pos h3, hw]
        have := tm _ hr.1
        exact ⟨_, _, _, rfl, ⟨by omega, by omega, hsd.1, hsd.2⟩, this.1, fun _ => this.2, fun h => absurd h h1⟩
      · rw [if_neg h3, hw, hx, w64 (by omega) (by omega)]
        have := tm (s' / 31 + rd l a) (by omega)
        exact ⟨_, _, _, rfl, ⟨by omega, by omega, hsd.1, hsd.2⟩, this.1, fun _ => this.2, fun h => absurd h h1⟩
    · rw [if_neg h2, hx]
      have := tm (s' / 31) (by omega)
      exact ⟨_, _, _, rfl, ⟨a0, a1, hsd.1, hsd.2⟩, this.1, fun _ => this.2, fun h => absurd h h1⟩
theorem next_ok {l : List Int} {a s : Int} (hb : Bytes l) (h : Src l a s) (n : Int) (_hn : n ≤ 9223372036854775807) :
    ∃ r a' s', spec_l01Next.f l a s n = some (r, a', s') ∧ Src l a' s' ∧ 0 ≤ r ∧ (1 ≤ n → r < n) ∧ (n ≤ 1 → r = 0) := next_any hb h n
theorem from_s (l : List Int) (hb : ∀ x ∈ l, 0 ≤ x ∧ x ≤ 255) : ∀ s : Int, (0 ≤ s ∧ s ≤ 2147483646) → 0 ≤ spec_l01From.s l s ∧ spec_l01From.s l s ≤ 2147483646 := by
  induction l with
  | nil => intro s hs; exact hs
  | cons c r ih =>
    intro s hs
    have hc := hb c List.mem_cons_self
    unfold spec_l01From.s at ih ⊢
    rw [List.foldl_cons]
    refine ih (fun x hx => hb x (List.mem_cons_of_mem _ hx)) _ ?_
    refine seed_in ?_ ?_
    · rw [w64 (n := s * 47) (by omega) (by omega), w64 (n := c) (by omega) (by omega), w64 (by omega) (by omega)]; omega
    · rw [w64 (n := s * 47) (by omega) (by omega), w64 (n := c) (by omega) (by omega), w64 (by omega) (by omega)]; omega
theorem from_ok {l : List Int} (hb : Bytes l) : ∃ s, spec_l01From.f l = some (l, 0, s) ∧ Src l 0 s := by
  have h := from_s (l.take 64) (fun x hx => hb.2 x (List.mem_of_mem_take hx)) 61003 (by omega)
  exact ⟨_, rfl, ⟨Int.le_refl _, by omega, h.1, h.2⟩⟩
end Go.Proofs.Ytpinaeegopdknaa.Pure
end
section
namespace Go.Proofs.Ytpinaeegopdknaa.Pure
open Go.RowKit Go.Proofs.Ytpinaeegopdknaa Go.Proofs.Ytpinaeegopdknaa.Q Go.Proofs.YtpinaeegopdknaaW.PrintWords
set_option linter.unusedVariables false
set_option linter.unusedSimpArgs false
theorem nbStep_mem {l out : List Cell} {d x : Cell} : x ∈ nbStep l out d ↔ x ∈ out ∨ (x = d ∧ d ∉ l) := by
  unfold nbStep
  by_cases h1 : d ∈ l
  · rw [if_pos h1]
    constructor
    · exact Or.inl
    · rintro (h | h)
      · exact h
      · exact absurd h1 h.2
  · rw [if_neg h1]
    by_cases h2 : d ∈ out
    · rw [if_pos h2]
      constructor
      · exact Or.inl
      · rintro (h | h)
        · exact h
        · rw [h.1]; exact h2
    · rw [if_neg h2, ins_mem]
      constructor
      · rintro (h | h)
        · exact Or.inr ⟨h, h1⟩
        · exact Or.inl h
      · rintro (h | h)
        · exact Or.inr h
        · exact Or.inl h.1
theorem nbFold_mem {l : List Cell} {x : Cell} : ∀ (a out : List Cell), x ∈ a.foldl (nbStep l) out ↔ x ∈ out ∨ (x ∈ a ∧ x ∉ l)
  | [], out => by simp
  | d :: r, out => by
    rw [List.foldl_cons, nbFold_mem r, nbStep_mem, List.mem_cons]
    constructor
    · rintro ((h | ⟨h, h2⟩) | ⟨h, h2⟩)
      · exact Or.inl h
      · exact Or.inr ⟨Or.inl h, by rw [h]; exact h2⟩
      · exact Or.inr ⟨Or.inr h, h2⟩
    · rintro (h | ⟨h | h, h2⟩)
      · exact Or.inl (Or.inl h)
      · exact Or.inl (Or.inr ⟨h, by rw [← h]; exact h2⟩)
      · exact Or.inr ⟨h, h2⟩
theorem nbAll_mem {l : List Cell} {x : Cell} : ∀ (a out : List Cell), x ∈ a.foldl (fun out c => (arC c).foldl (nbStep l) out) out ↔ x ∈ out ∨ (x ∉ l ∧ ∃ c ∈ a, x ∈ arC c)
  | [], out => by simp
  | d :: r, out => by
    rw [List.foldl_cons, nbAll_mem r, nbFold_mem]
    simp only [List.mem_cons]
    constructor
    · rintro ((h | ⟨h, h2⟩) | ⟨h, c, hc, h2⟩)
      · exact Or.inl h
      · exact Or.inr ⟨h2, d, Or.inl rfl, h⟩
      · exact Or.inr ⟨h, c, Or.inr hc, h2⟩
    · rintro (h | ⟨h, c, hc | hc, h2⟩)
      · exact Or.inl (Or.inl h)
      · exact Or.inl (Or.inr ⟨by rw [← hc]; exact h2, h⟩)
      · exact Or.inr ⟨h, c, hc, h2⟩
theorem nbC_mem {l : List Cell} {x : Cell} : x ∈ nbC l ↔ x ∉ l ∧ ∃ c ∈ l, x ∈ arC c := by
  unfold nbC
  rw [nbAll_mem]
  simp
theorem min_cell : ∀ l : List Cell, l ≠ [] → ∃ c ∈ l, ∀ d ∈ l, c.f1 ≤ d.f1
  | [], h => absurd rfl h
  | [c], _ => ⟨c, List.mem_cons_self, fun d hd => by rw [List.mem_singleton.1 hd]; exact Int.le_refl _⟩
  | c :: e :: r, _ => by
    obtain ⟨m, hm, h⟩ := min_cell (e :: r) (by simp)
    by_cases hc : c.f1 ≤ m.f1
    · refine ⟨c, List.mem_cons_self, fun d hd => ?_⟩
      rcases List.mem_cons.1 hd with rfl | hd
      · exact Int.le_refl _
      · exact Int.le_trans hc (h d hd)
    · refine ⟨m, List.mem_cons_of_mem _ hm, fun d hd => ?_⟩
      rcases List.mem_cons.1 hd with rfl | hd
      · omega
      · exact h d hd
theorem nbC_ne {l : List Cell} (h : l ≠ []) : nbC l ≠ [] := by
  obtain ⟨c, hc, hm⟩ := min_cell l h
  have : (⟨c.f0, c.f1 - 1⟩ : Cell) ∈ nbC l := nbC_mem.2 ⟨fun hin => by have := hm _ hin; simp only at this; omega, c, hc, by simp [arC]⟩
  intro e
  rw [e] at this
  cases this
theorem nbC_in {l : List Cell} {b : Int} (h : In b l) : In (b + 1) (nbC l) := by
  intro x hx
  obtain ⟨_, c, hc, hx⟩ := nbC_mem.1 hx
  have hb := h c hc
  simp only [arC, List.mem_cons, List.not_mem_nil, or_false] at hx
  rcases hx with rfl | rfl | rfl | rfl <;> simp only <;> omega
theorem nbFold_len (l : List Cell) : ∀ a out : List Cell, (a.foldl (nbStep l) out).length ≤ out.length + a.length
  | [], out => by simp
  | d :: r, out => by
    have h1 := nbFold_len l r (nbStep l out d)
    have h2 := (nbStep_len l out d).2
    rw [List.foldl_cons, List.length_cons]
    omega
theorem nbAll_len (l : List Cell) : ∀ a out : List Cell, (a.foldl (fun out c => (arC c).foldl (nbStep l) out) out).length ≤ out.length + 4 * a.length
  | [], out => by simp
  | d :: r, out => by
    have h1 := nbAll_len l r ((arC d).foldl (nbStep l) out)
    have h2 := nbFold_len l (arC d) out
    have h3 : (arC d).length = 4 := rfl
    rw [List.foldl_cons, List.length_cons]
    omega
theorem nbC_len (l : List Cell) : (nbC l).length ≤ 4 * l.length := by
  have := nbAll_len l l []
  simp at this
  exact this
theorem In.mono {l : List Cell} {a b : Int} (h : In a l) (hab : a ≤ b) : In b l := fun c hc => by have := h c hc; omega
theorem In.ins {l : List Cell} {b : Int} {c : Cell} (h : In b l) (hc : (-b ≤ c.f0 ∧ c.f0 ≤ b) ∧ -b ≤ c.f1 ∧ c.f1 ≤ b) : In b (ins c l) := by
  intro d hd
  rcases ins_mem.1 hd with rfl | hd
  · exact hc
  · exact h d hd
theorem In.mov {l : List Cell} {a b x y : Int} (h : In a l) (hx : -b ≤ x ∧ x ≤ b) (hy : -b ≤ y ∧ y ≤ b) : In (a + b) (movC l x y) := by
  intro d hd
  obtain ⟨c, hc, rfl⟩ := List.mem_map.1 hd
  have := h c hc
  simp only
  omega
theorem normC_len (l : List Cell) : (normC l).length = l.length := movC_len _ _ _
theorem normC_in {l : List Cell} {b : Int} (h0 : l ≠ []) (h : In b l) : In (2 * b) (normC l) := by
  have hb := leastC_in h0 h
  have := In.mov (b := b) h (x := -(leastC l).1) (y := -(leastC l).2) (by omega) (by omega)
  exact this.mono (by omega)
theorem poly_loop {l : List Int} (hb : Bytes l) : ∀ (n : Nat) (a s : Int) (out : List Cell), Src l a s → out ≠ [] → out.length + n ≤ 100 → In (out.length : Int) out →
    ∃ r a' s', Evt (fun k => spec_l02DrawPoly.l0 k out (n : Int) l a s) (r, a', s') ∧ Src l a' s' ∧ r ≠ [] ∧ r.length = out.length + n ∧ In (2 * ((out.length : Int) + n)) r := by
  intro n
  induction n with
  | zero =>
    intro a s out hs h0 hl hi
    refine ⟨normC out, a, s, ?_, hs, ?_, by rw [normC_len]; rfl, (normC_in h0 hi).mono (by omega)⟩
    · refine Evt.step (fun k => rfl) ?_
      simp only [spec_l02DrawPoly.l0]
      refine Evt.ite_neg (by omega) ?_
      exact (l02Normal_eq out h0 (by omega) (hi.mono (by omega))).bind Evt.pure
    · intro e
      have := congrArg List.length e
      rw [normC_len] at this
      exact h0 (List.eq_nil_of_length_eq_zero this)
  | succ n ih =>
    intro a s out hs h0 hl hi
    have hne := nbC_ne h0
    have hnl := nbC_len out
    have hpos : 0 < (nbC out).length := List.length_pos_iff.2 hne
    obtain ⟨x, a1, s1, hx, hs1, x0, x1, _⟩ := next_ok hb hs ((nbC out).length : Int) (by omega)
    have x2 := x1 (by omega)
    obtain ⟨j, rfl⟩ : ∃ j : Nat, x = (j : Int) := ⟨x.toNat, by omega⟩
    have hj : j < (nbC out).length := by omega
    have hd := In.at (nbC_in hi) j hj
    obtain ⟨r, a2, s2, hr, hs2, hr0, hrl, hri⟩ := ih a1 s1 (ins ((nbC out).getD j z43) out) hs1 (by intro e; have := congrArg List.length e; rw [ins_len] at this; simp at this) (by rw [ins_len]; omega)
      (by rw [ins_len]; exact In.ins (hi.mono (by omega)) (by omega))
    rw [ins_len] at hrl hri
    refine ⟨r, a2, s2, ?_, hs2, hr0, by omega, hri.mono (by omega)⟩
    refine Evt.step (fun k => rfl) ?_
    simp only [spec_l02DrawPoly.l0]
    refine Evt.ite_pos (by omega) ?_
    refine (l02Neighbours_eq out (by omega) (hi.mono (by omega))).bind ?_
    simp only [hx, Option.bind_some, rd_getD]
    refine Evt.ite_pos (by omega) (Evt.ite_pos (by omega) ?_)
    refine (l02Insert_eq out ((nbC out).getD j z43) (by omega)).bind ?_
    have ew : wrap64 (((n + 1 : Nat) : Int) - 1) = (n : Int) := by rw [w64 (by omega) (by omega)]; omega
    rw [ew]
    exact hr
theorem poly_ok {l : List Int} (hb : Bytes l) {a s : Int} (hs : Src l a s) (m : Nat) (hm : 1 ≤ m) (hm2 : m ≤ 90) :
    ∃ r a' s', Evt (fun k => spec_l02DrawPoly.f k l a s (m : Int)) (r, a', s') ∧ Src l a' s' ∧ r ≠ [] ∧ r.length ≤ m ∧ In (2 * (m : Int)) r := by
  obtain ⟨x, a1, s1, hx, hs1, x0, x1, _⟩ := next_ok hb hs (m : Int) (by omega)
  have x2 := x1 (by omega)
  obtain ⟨j, rfl⟩ : ∃ j : Nat, x = (j : Int) := ⟨x.toNat, by omega⟩
  obtain ⟨r, a2, s2, hr, hs2, hr0, hrl, hri⟩ := poly_loop hb j a1 s1 [(⟨0, 0⟩ : Cell)] hs1 (by simp) (by simp; omega) (by intro c hc; rw [List.mem_singleton.1 hc]; simp)
  simp at hrl hri
  refine ⟨r, a2, s2, ?_, hs2, hr0, by omega, hri.mono (by omega)⟩
  unfold spec_l02DrawPoly.f
  simp only [hx, Option.bind_some]
  exact hr
end Go.Proofs.Ytpinaeegopdknaa.Pure
end
section
namespace Go.Proofs.Ytpinaeegopdknaa.Pure
open Go.RowKit Go.Proofs.Ytpinaeegopdknaa Go.Proofs.Ytpinaeegopdknaa.Q Go.Proofs.YtpinaeegopdknaaW.PrintWords
set_option linter.unusedVariables false
set_option linter.unusedSimpArgs false
theorem row_loop {l : List Int} (hb : Bytes l) : ∀ (d i : Nat) (a s : Int) (out : List Cell), 41 - i ≤ d → i ≤ 41 → Src l a s → out.length = i → In 41 out →
    ∃ r a' s', Evt (fun k => spec_l02Draw.l0 k out (i : Int) l a s) (r, a', s') ∧ Src l a' s' ∧ r.length ≤ 41 ∧ In 41 r := by
  intro d
  induction d with
  | zero =>
    intro i a s out hd hi hs hl hin
    obtain ⟨x, a1, s1, hx, hs1, x0, x1, _⟩ := next_ok hb hs 2 (by omega)
    have x2 := x1 (by omega)
    refine ⟨out, a1, s1, ?_, hs1, by omega, hin⟩
    refine Evt.step (fun k => rfl) ?_
    simp only [spec_l02Draw.l0, hx, Option.bind_some]
    rw [w64 (by omega) (by omega)]
    exact Evt.ite_neg (by omega) Evt.pure
  | succ d ih =>
    intro i a s out hd hi hs hl hin
    obtain ⟨x, a1, s1, hx, hs1, x0, x1, _⟩ := next_ok hb hs 2 (by omega)
    have x2 := x1 (by omega)
    by_cases hc : (i : Int) < 40 + x
    · obtain ⟨r, a2, s2, hr, hs2, hrl, hri⟩ := ih (i + 1) a1 s1 (out ++ [⟨(i : Int), 0⟩]) (by omega) (by omega) hs1 (by simp [hl]) (by
        intro c hc'
        rcases List.mem_append.1 hc' with h | h
        · exact hin c h
        · rw [List.mem_singleton.1 h]; simp only; omega)
      refine ⟨r, a2, s2, ?_, hs2, hrl, hri⟩
      refine Evt.step (fun k => rfl) ?_
      simp only [spec_l02Draw.l0, hx, Option.bind_some]
      rw [w64 (n := 40 + x) (by omega) (by omega)]
      refine Evt.ite_pos hc (Evt.ite_pos (by omega) ?_)
      have ew : wrap64 ((i : Int) + 1) = ((i + 1 : Nat) : Int) := by rw [w64 (by omega) (by omega)]; omega
      rw [ew]
      exact hr
    · refine ⟨out, a1, s1, ?_, hs1, by omega, hin⟩
      refine Evt.step (fun k => rfl) ?_
      simp only [spec_l02Draw.l0, hx, Option.bind_some]
      rw [w64 (by omega) (by omega)]
      exact Evt.ite_neg hc Evt.pure
theorem In.snoc {l : List Cell} {b : Int} {c : Cell} (h : In b l) (hc : (-b ≤ c.f0 ∧ c.f0 ≤ b) ∧ -b ≤ c.f1 ∧ c.f1 ≤ b) : In b (l ++ [c]) := by
  intro d hd
  rcases List.mem_append.1 hd with h2 | h2
  · exact h d h2
  · rw [List.mem_singleton.1 h2]; exact hc
def Drawn (l : List Int) (g : Nat → Option (List Cell × Int × Int)) : Prop := ∃ r a s, Evt g (r, a, s) ∧ Src l a s ∧ r.length ≤ 50 ∧ In 1000 r
theorem Drawn.pos {l : List Int} {c : Prop} [Decidable c] {g h : Nat → Option (List Cell × Int × Int)} (hc : c) (hd : Drawn l g) : Drawn l (fun k => if c then g k else h k) := by
  obtain ⟨r, a, s, h1, h2⟩ := hd
  exact ⟨r, a, s, Evt.ite_pos hc h1, h2⟩
theorem Drawn.neg {l : List Int} {c : Prop} [Decidable c] {g h : Nat → Option (List Cell × Int × Int)} (hc : ¬ c) (hd : Drawn l h) : Drawn l (fun k => if c then g k else h k) := by
  obtain ⟨r, a, s, h1, h2⟩ := hd
  exact ⟨r, a, s, Evt.ite_neg hc h1, h2⟩
theorem Drawn.bind {l : List Int} {α : Type} {g : Nat → Option α} {f : Nat → α → Option (List Cell × Int × Int)} {x : α} (h : Evt g x) (hd : Drawn l (fun k => f k x)) : Drawn l (fun k => (g k).bind (f k)) := by
  obtain ⟨r, a, s, h1, h2⟩ := hd
  exact ⟨r, a, s, h.bind h1, h2⟩
theorem Drawn.pure {l : List Int} {r : List Cell} {a s : Int} (h : Src l a s) (hl : r.length ≤ 50) (hi : In 1000 r) : Drawn l (fun _ => some (r, a, s)) := ⟨r, a, s, Evt.pure, h, hl, hi⟩
theorem three_rd (i : Int) (h0 : 0 ≤ i) (h1 : i < 3) : -100 ≤ rd ([(-100), 100, 101] : List Int) i ∧ rd ([(-100), 100, 101] : List Int) i ≤ 101 := by
  obtain rfl | rfl | rfl : i = 0 ∨ i = 1 ∨ i = 2 := by omega
  all_goals (simp [rd])
theorem draw_ok {l : List Int} (hb : Bytes l) {a s : Int} (hs : Src l a s) : Drawn l (fun k => spec_l02Draw.f k l a s) := by
  unfold spec_l02Draw.f
  obtain ⟨p, a1, s1, hp, hs1, hp0, hpl, hpi⟩ := poly_ok hb hs 8 (by omega) (by omega)
  obtain ⟨x, a2, s2, hx, hs2, x0, x1, _⟩ := next_ok hb hs1 9 (by omega)
  obtain ⟨y, a3, s3, hy, hs3, y0, y1, _⟩ := next_ok hb hs2 9 (by omega)
  have x2 := x1 (by omega)
  have y2 := y1 (by omega)
  have hpos : 0 < p.length := List.length_pos_iff.2 hp0
  refine Drawn.bind hp ?_
  simp only [hx, hy, Option.bind_some]
  rw [w64 (n := x - 4) (by omega) (by omega), w64 (n := y - 4) (by omega) (by omega)]
  refine Drawn.bind (l02Move_eq p (x - 4) (y - 4) (by omega) (hpi.mono (by omega)) (by omega) (by omega)) ?_
  have hql := movC_len p (x - 4) (y - 4)
  have hqi := (In.mov hpi (b := 5) (x := x - 4) (y := y - 4) (by omega) (by omega)).mono (b := 100) (by omega)
  generalize movC p (x - 4) (y - 4) = q at hql hqi ⊢
  obtain ⟨z, a4, s4, hz, hs4, z0, z1, _⟩ := next_ok hb hs3 (q.length : Int) (by omega)
  have z2 := z1 (by omega)
  obtain ⟨j, rfl⟩ : ∃ j : Nat, z = (j : Int) := ⟨z.toNat, by omega⟩
  have hj : j < q.length := by omega
  have hqj := In.at hqi j hj
  have hq0 := In.at hqi 0 (by omega)
  have hqe := In.at hqi (q.length - 1) (by omega)
  obtain ⟨t, a5, s5, ht, hs5, t0, t1, _⟩ := next_ok hb hs4 24 (by omega)
  obtain ⟨u, a6, s6, hu, hs6, u0, u1, _⟩ := next_ok hb hs5 3 (by omega)
  have u2 := u1 (by omega)
  have hu3 := three_rd u u0 u2
  simp only [hz, ht, hu, Option.bind_some, rd_getD]
  have ee : wrap64 ((q.length : Int) - 1) = ((q.length - 1 : Nat) : Int) := by rw [w64 (by omega) (by omega)]; omega
  by_cases c0 : t = 0
  · refine Drawn.pos c0 (Drawn.pos u0 (Drawn.pos (by simp; omega) (Drawn.pos (by omega) (Drawn.pos (by omega) ?_))))
    refine Drawn.bind (l02Sort_eq _ (by simp; omega)) ?_
    refine Drawn.pure hs6 (by rw [sortC_len]; simp; omega) ?_
    intro d hd
    have hd2 := (sortC_perm _).mem_iff.1 hd
    rcases List.mem_or_eq_of_mem_set hd2 with h | h
    · have := hqi d h; omega
    · rw [h]; simp only; omega
  · refine Drawn.neg c0 ?_
    by_cases c1 : t = 1
    · refine Drawn.pos c1 (Drawn.pos (by omega) (Drawn.pos (by omega) (Drawn.pos (by omega) ?_)))
      exact Drawn.pure hs5 (by simp; omega) (In.snoc (hqi.mono (by omega)) (by simp only; omega))
    · refine Drawn.neg c1 ?_
      by_cases c2 : t = 2
      · exact Drawn.pos c2 (Drawn.pure hs5 (by simp) (by intro c hc; cases hc))
      · refine Drawn.neg c2 ?_
        by_cases c3 : t = 3
        · obtain ⟨r, a7, s7, hr, hs7, hrl, hri⟩ := row_loop hb 41 0 a5 s5 [] (by omega) (by omega) hs5 rfl (by intro c hc; cases hc)
          exact Drawn.pos c3 ⟨r, a7, s7, hr, hs7, by omega, hri.mono (by omega)⟩
        · refine Drawn.neg c3 ?_
          have e0 : rd_T43 q 0 = q.getD 0 z43 := rd_getD q 0
          have last : Drawn l (fun _ => some ((q ++ [(⟨wrap64 ((rd_T43 q 0).f0 + 3), wrap64 ((q.getD (q.length - 1) z43).f1 + 2)⟩ : Cell)]), a5, s5)) := by
            rw [e0, w64 (n := (q.getD 0 z43).f0 + 3) (by omega) (by omega), w64 (n := (q.getD (q.length - 1) z43).f1 + 2) (by omega) (by omega)]
            exact Drawn.pure hs5 (by simp; omega) (In.snoc (hqi.mono (by omega)) (by simp only; omega))
          by_cases c4 : t = 4
          · refine Drawn.pos c4 (Drawn.pos (by omega) ?_)
            simp only [ee, rd_getD]
            exact Drawn.pos (by omega) (Drawn.pos (by omega) (Drawn.pos (by omega) last))
          · refine Drawn.neg c4 ?_
            by_cases c5 : t = 5
            · refine Drawn.pos c5 (Drawn.pos (by omega) ?_)
              simp only [ee, rd_getD]
              exact Drawn.pos (by omega) (Drawn.pos (by omega) (Drawn.pos (by omega) last))
            · exact Drawn.neg c5 (Drawn.pure hs5 (by omega) (hqi.mono (by omega)))
end Go.Proofs.Ytpinaeegopdknaa.Pure
end
section
namespace Go.Proofs.Ytpinaeegopdknaa.Pure
open Go.RowKit Go.Proofs.Ytpinaeegopdknaa Go.Proofs.Ytpinaeegopdknaa.Q Go.Proofs.YtpinaeegopdknaaW.PrintWords
set_option linter.unusedVariables false
set_option linter.unusedSimpArgs false
def Ends {α : Type} (g : Nat → Option α) : Prop := ∃ r, Evt g r
theorem Ends.step {α : Type} {g h : Nat → Option α} (e : ∀ k, g (k + 1) = h k) (b : Ends h) : Ends g := by
  obtain ⟨r, a⟩ := b
  exact ⟨r, a.step e⟩
theorem Ends.bind {α β : Type} {g : Nat → Option β} {f : Nat → β → Option α} {x : β} (e : Evt g x) (b : Ends (fun k => f k x)) : Ends (fun k => (g k).bind (f k)) := by
  obtain ⟨r, a⟩ := b
  exact ⟨r, e.bind a⟩
theorem Ends.pure {α : Type} {r : α} : Ends (fun _ => some r) := ⟨r, Evt.pure⟩
theorem div_bound1 {n h : Nat} : (n : Int) / (h : Int) = ((n / h : Nat) : Int) := by simp
theorem shifts_spec (l : List Cell) (hs : Small l) (hb : l.length ≤ 40) (h q : Nat) (h1 : 1 ≤ h) (h2 : h ≤ 40) (hq : q ≤ 40) (ED : Aside0 (wrap64 ((l.length : Int) / (h : Int)) = (q : Int))) (HM : Aside0 ((l.length : Int) % (h : Int) = 0))
    (next : ∀ acc' : List S30, acc'.length ≤ 40 * (h + 1) → Ends (fun k => spec_l24Lattices.l0 k l (l.length : Int) acc' (wrap64 ((h : Int) + 1)))) :
    ∀ (m s : Nat) (acc' : List S30), q - s = m → acc'.length ≤ 40 * h + s → s ≤ q →
          Ends (fun k => spec_l24Lattices.l1 k l (l.length : Int) acc' (h : Int) (s : Int)) := by
  have h0 : ¬ (h : Int) = 0 := by omega
  intro m
  induction m with
  | zero =>
    intro s acc' hms ha' hsl
    have hsc : ¬ (s : Int) < (q : Int) := by omega
    have hn : acc'.length ≤ 40 * (h + 1) := by omega
    clear ha' hms hsl
    refine Ends.step (fun k => rfl) ?_
    simp only [spec_l24Lattices.l1, ED.out, if_neg h0, if_pos HM.out]
    refine Ends.step (fun k => rfl) ?_
    simp only [spec_l24Lattices.j2, decide_eq_false hsc, Bool.false_eq_true, if_false]
    exact next acc' hn
  | succ m ihm =>
    intro s acc' hms ha' hsl
    have es : wrap64 ((s : Int) + 1) = ((s + 1 : Nat) : Int) := by rw [w64 (by omega) (by omega)]; omega
    have hsc : (s : Int) < (q : Int) := by omega
    have hL : Lat (q : Int) (s : Int) (h : Int) = true := Lat_iff.2 ⟨by omega, by omega, by omega, by omega, by omega, by omega⟩
    have ha2 : acc'.length < 5864062014805 := by omega
    have i1 := ihm (s + 1) acc' (by omega) (by omega) (by omega)
    have i2 := fun x => ihm (s + 1) (acc' ++ [x]) (by omega) (by simp; omega) (by omega)
    have hlb : l.length ≤ 1000000 := by omega
    refine Ends.step (fun k => rfl) ?_
    simp only [spec_l24Lattices.l1, ED.out, if_neg h0, if_pos HM.out]
    refine Ends.step (fun k => rfl) ?_
    simp only [spec_l24Lattices.j2, ED.out, es, decide_eq_true hsc, if_true, if_neg h0]
    refine Ends.bind (l24Tiles_eq l hL hs hlb) ?_
    cases til l (q : Int) (s : Int) (h : Int)
    · simp only [Bool.false_eq_true, if_false]
      exact i1
    · simp only [if_true, if_pos ha2]
      exact i2 _
theorem lattices_from1 (l : List Cell) (hS : Sh l = true) : ∀ (d : Nat) (h : Nat) (acc : List S30), 1 ≤ h → l.length + 1 - h = d → acc.length ≤ 40 * h →
    Ends (fun k => spec_l24Lattices.l0 k l (l.length : Int) acc (h : Int)) := by
  have hb := Sh_len hS
  have hs := Sh_small hS
  intro d
  induction d with
  | zero =>
    intro h acc h1 hd ha
    refine Ends.step (fun k => rfl) ?_
    simp only [spec_l24Lattices.l0]
    simp only [if_neg (show ¬ (h : Int) ≤ (l.length : Int) by omega)]
    exact Ends.pure
  | succ d ih =>
    intro h acc h1 hd ha
    obtain ⟨q, hqe, hq⟩ : ∃ q, q = l.length / h ∧ q ≤ 40 := ⟨_, rfl, Nat.le_trans (Nat.div_le_self _ _) hb.2⟩
    have next : ∀ acc', acc'.length ≤ 40 * (h + 1) → Ends (fun k => spec_l24Lattices.l0 k l (l.length : Int) acc' (wrap64 ((h : Int) + 1))) := by
      intro acc' ha'
      have e : wrap64 ((h : Int) + 1) = ((h + 1 : Nat) : Int) := by rw [w64 (by omega) (by omega)]; omega
      rw [e]
      exact ih (h + 1) acc' (by omega) (by omega) ha'
    refine Ends.step (fun k => rfl) ?_
    simp only [spec_l24Lattices.l0]
    simp only [if_pos (show (h : Int) ≤ (l.length : Int) by omega)]
    by_cases hm : (l.length : Int) % (h : Int) = 0
    · have ed : wrap64 ((l.length : Int) / (h : Int)) = (q : Int) := by rw [div_bound1, ← hqe, w64 (by omega) (by omega)]
      clear hqe
      exact shifts_spec l hs hb.2 h q h1 (by omega) hq ⟨ed⟩ ⟨hm⟩ next _ 0 acc rfl (by omega) (Nat.zero_le _)
    · refine Ends.step (fun k => rfl) ?_
      simp only [spec_l24Lattices.l1, if_neg (show ¬ (h : Int) = 0 by omega), if_neg hm]
      refine Ends.step (fun k => rfl) ?_
      simp only [spec_l24Lattices.j2, Bool.false_eq_true, if_false]
      exact next acc (by omega)
theorem lattices_end (l : List Cell) (hS : Sh l = true) : ∃ r, Evt (fun k => spec_l24Lattices.f k l) r := by
  unfold spec_l24Lattices.f
  exact lattices_from1 l hS _ 1 [] (by omega) rfl (by simp)
end Go.Proofs.Ytpinaeegopdknaa.Pure
end
section
namespace Go.Proofs.Ytpinaeegopdknaa.Pure
open Go.RowKit Go.Proofs.Ytpinaeegopdknaa Go.Proofs.Ytpinaeegopdknaa.Q Go.Proofs.YtpinaeegopdknaaW.PrintWords
set_option linter.unusedVariables false
set_option linter.unusedSimpArgs false
theorem wrap64_le (n : Int) : wrap64 n ≤ 9223372036854775807 := by unfold wrap64; omega
theorem lat_draw_ok {l : List Int} (hb : Bytes l) {a s : Int} (hs : Src l a s) : ∃ r, spec_l24Draw.f l a s = some r := by
  unfold spec_l24Draw.f
  obtain ⟨x, a1, s1, hx, hs1, x0, x1, _⟩ := next_ok hb hs 6 (by omega)
  obtain ⟨y, a2, s2, hy, hs2, y0, y1, _⟩ := next_ok hb hs1 4 (by omega)
  obtain ⟨z, a3, s3, hz, hs3, z0, z1, _⟩ := next_ok hb hs2 (wrap64 (1 + x)) (wrap64_le _)
  obtain ⟨t, a4, s4, ht, hs4, t0, t1, _⟩ := next_ok hb hs3 24 (by omega)
  obtain ⟨u, a5, s5, hu, hs5, u0, u1, _⟩ := next_ok hb hs4 3 (by omega)
  obtain ⟨v, a6, s6, hv, hs6, v0, v1, _⟩ := next_ok hb hs4 2 (by omega)
  have u2 := u1 (by omega)
  have v2 := v1 (by omega)
  simp only [hx, hy, hz, ht, hu, hv, Option.bind_some, List.length_cons, List.length_nil]
  by_cases c0 : t = 0
  · rw [if_pos c0, if_pos u0, if_pos (by omega)]; exact ⟨_, rfl⟩
  · rw [if_neg c0]
    by_cases c1 : t = 1
    · rw [if_pos c1, if_pos u0, if_pos (by omega)]; exact ⟨_, rfl⟩
    · rw [if_neg c1]
      by_cases c2 : t = 2
      · rw [if_pos c2, if_pos v0, if_pos (by omega)]; exact ⟨_, rfl⟩
      · rw [if_neg c2]; exact ⟨_, rfl⟩
theorem draw_tile_ok {l : List Int} (hb : Bytes l) : ∃ r, Evt (fun k => spec_DrawDoesTile.f k l) r ∧ r.1.length ≤ 50 := by
  unfold spec_DrawDoesTile.f
  obtain ⟨s, hf, hs⟩ := from_ok hb
  obtain ⟨p, a1, s1, hp, hs1, hpl, hpi⟩ := draw_ok hb hs
  obtain ⟨x, a2, s2, hx, hs2, x0, x1, _⟩ := next_ok hb hs1 2 (by omega)
  simp only [hf, Option.bind_some]
  have fin : ∀ (b : Bool) {a s : Int}, Src l a s → (b = true → Sh p = true) → ∃ r, Evt (fun k => spec_DrawDoesTile.j0 k p b l a s) r ∧ r.1.length ≤ 50 := by
    intro b a s hs hb2
    obtain ⟨t, ht⟩ := lat_draw_ok hb hs
    cases b with
    | false =>
      refine ⟨(p, t.1, t.2.1, t.2.2.1), Evt.step (fun k => rfl) ?_, hpl⟩
      simp only [spec_DrawDoesTile.j0, Bool.false_eq_true, if_false, ht, Option.bind_some]
      exact Evt.pure
    | true =>
      obtain ⟨ls, hl1⟩ := lattices_end p (hb2 rfl)
      by_cases hz : (ls.length : Int) > 0
      · obtain ⟨u, a3, s3, hu, hs3, u0, u1, _⟩ := next_any hb hs (ls.length : Int)
        have u2 := u1 (by omega)
        refine ⟨(p, (rd_T30 ls u).f0, (rd_T30 ls u).f1, (rd_T30 ls u).f2), Evt.step (fun k => rfl) ?_, hpl⟩
        simp only [spec_DrawDoesTile.j0, if_true]
        refine hl1.bind (Evt.ite_pos hz ?_)
        simp only [hu, Option.bind_some]
        exact Evt.ite_pos u0 (Evt.ite_pos u2 Evt.pure)
      · refine ⟨(p, t.1, t.2.1, t.2.2.1), Evt.step (fun k => rfl) ?_, hpl⟩
        simp only [spec_DrawDoesTile.j0, if_true]
        refine hl1.bind (Evt.ite_neg hz ?_)
        simp only [ht, Option.bind_some]
        exact Evt.pure
  cases hS : Sh p with
  | false =>
    obtain ⟨r, h1, h2⟩ := fin false hs1 (fun h => by cases h)
    refine ⟨r, hp.bind ((spec_IsShape_eq p (by omega)).bind ?_), h2⟩
    simp only [hS, Bool.false_eq_true, if_false]
    exact h1
  | true =>
    obtain ⟨r, h1, h2⟩ := fin (x == 0) hs2 (fun _ => hS)
    refine ⟨r, hp.bind ((spec_IsShape_eq p (by omega)).bind ?_), h2⟩
    simp only [hS, if_true, hx, Option.bind_some]
    exact h1
end Go.Proofs.Ytpinaeegopdknaa.Pure
end
section
namespace Go.Proofs.Ytpinaeegopdknaa.Pure
open Go.RowKit Go.Proofs.Ytpinaeegopdknaa Go.Proofs.Ytpinaeegopdknaa.Q Go.Proofs.Ytpinaeegopdknaa.UFnPatches Go.Proofs.YtpinaeegopdknaaW.PrintWords
set_option linter.unusedVariables false
set_option linter.unusedSimpArgs false
theorem draw_patch_ok {l : List Int} (hb : Bytes l) : ∃ r, Evt (fun k => spec_DrawPatchOf.f k l) r ∧ r.1.length ≤ 50 := by
  unfold spec_DrawPatchOf.f
  obtain ⟨s, hf, hs⟩ := from_ok hb
  obtain ⟨p, hp, hpl⟩ := draw_tile_ok hb
  obtain ⟨x, a1, s1, hx, hs1, x0, x1, _⟩ := next_ok hb hs 8 (by omega)
  obtain ⟨y, a2, s2, hy, hs2, y0, y1, _⟩ := next_ok hb hs1 8 (by omega)
  have x2 := x1 (by omega)
  have y2 := y1 (by omega)
  simp only [hf, Option.bind_some, List.length_cons, List.length_nil]
  refine ⟨(p.1, p.2.1, p.2.2.1, p.2.2.2, rd [1, 3, 5, 8, 0, 20, 21, 6] x, rd [1, 3, 5, 8, 0, 20, 21, 6] y), hp.bind ?_, hpl⟩
  simp only [hx, hy, Option.bind_some]
  exact Evt.ite_pos x0 (Evt.ite_pos (by omega) (Evt.ite_pos y0 (Evt.ite_pos (by omega) Evt.pure)))
theorem strP_size (o : List Int) : (strOfNums o).size = o.length := by simp [strOfNums, ByteArray.size]
theorem bt_first (r : List Int) : bt (strOfNums (97 :: r)) 0 = 97 := by
  have h : (0 : Int).toNat < (strOfNums (97 :: r)).size := by
    rw [strP_size]
    simp
  unfold bt
  rw [dif_pos h]
  rfl
theorem rowS_pre (l : List Cell) (w s h : Int) (y : Nat) : ∀ (n x : Nat) (copies : List Cell) (out : List Int), ∃ t, (rowS l w s h y n x copies out).2 = out ++ t
  | 0, _, _, out => ⟨[], (List.append_nil out).symm⟩
  | n + 1, x, copies, out => by
    rw [rowS]
    obtain ⟨t, ht⟩ := rowS_pre l w s h y n (x + 1) (cop copies (vecS w s h (cm x y w s h) x y l (0, 0))) (out ++ [97 + ixAt (vecS w s h (cm x y w s h) x y l (0, 0)) 0 (cop copies (vecS w s h (cm x y w s h) x y l (0, 0))) % 26])
    exact ⟨_ :: t, by rw [ht, List.append_assoc]; rfl⟩
theorem rowsS_pre (l : List Cell) (w s h : Int) (wide : Nat) : ∀ (n y : Nat) (copies : List Cell) (out : List Int), ∃ t, rowsS l w s h wide n y copies out = out ++ t
  | 0, _, _, out => ⟨[], (List.append_nil out).symm⟩
  | n + 1, y, copies, out => by
    rw [rowsS]
    obtain ⟨t, ht⟩ := rowsS_pre l w s h wide n (y + 1) (rowS l w s h y wide 0 copies (if 0 < y then out ++ [47] else out)).1 (rowS l w s h y wide 0 copies (if 0 < y then out ++ [47] else out)).2
    obtain ⟨u, hu⟩ := rowS_pre l w s h y wide 0 copies (if 0 < y then out ++ [47] else out)
    rw [ht, hu]
    by_cases hy : 0 < y
    · rw [if_pos hy]
      exact ⟨[47] ++ u ++ t, by simp⟩
    · rw [if_neg hy]
      exact ⟨u ++ t, by simp⟩
theorem rowsS_len (l : List Cell) (w s h : Int) (wide : Nat) : ∀ (n y : Nat) (copies : List Cell) (out : List Int), 0 < y → (rowsS l w s h wide n y copies out).length = out.length + n * (wide + 1)
  | 0, _, _, out, _ => by rw [rowsS]; simp
  | n + 1, y, copies, out, hy => by
    rw [rowsS, if_pos hy, rowsS_len l w s h wide n (y + 1) _ _ (by omega), (rowS_len l w s h y wide 0 copies (out ++ [47])).1, List.length_append, List.length_singleton, Nat.succ_mul]
    omega
theorem patch_len (l : List Cell) (w s h : Int) (W H : Nat) : (rowsS l w s h W (H + 1) 0 [] []).length + 1 = (H + 1) * (W + 1) := by
  rw [rowsS, if_neg (by omega), rowsS_len l w s h W H 1 _ _ (by omega), (rowS_len l w s h 0 W 0 [] []).1, List.length_nil, Nat.succ_mul]
  omega
theorem patch_first (l : List Cell) (w s h : Int) (W H : Nat) : ∃ t, rowsS l w s h (W + 1) (H + 1) 0 [] [] = 97 :: t := by
  rw [rowsS, if_neg (by omega), rowS]
  generalize vecS w s h (cm ((0 : Nat) : Int) ((0 : Nat) : Int) w s h) ((0 : Nat) : Int) ((0 : Nat) : Int) l (0, 0) = q
  have e1 : cop [] q = [cc q] := by
    unfold cop
    rw [if_pos (show ixAt q 0 [] < 0 by show (-1 : Int) < 0; omega)]
    rfl
  have e2 : ixAt q 0 [cc q] = 0 := by
    unfold ixAt
    rw [if_pos ⟨rfl, rfl⟩]
    rfl
  rw [e1, e2]
  obtain ⟨u, hu⟩ := rowS_pre l w s h 0 W (0 + 1) [cc q] ([] ++ [97 + 0 % 26])
  obtain ⟨t, ht⟩ := rowsS_pre l w s h (W + 1) H (0 + 1) (rowS l w s h 0 W (0 + 1) [cc q] ([] ++ [97 + 0 % 26])).1 (rowS l w s h 0 W (0 + 1) [cc q] ([] ++ [97 + 0 % 26])).2
  rw [ht, hu]
  exact ⟨u ++ t, by simp⟩
theorem size_eq {n M : Nat} (h : n + 1 = M) (hm : M ≤ 420) : (n : Int) = wrap64 (wrap64 (M : Int) - 1) := by
  unfold wrap64
  omega
theorem FnPatches : laws_FnPatches_Pure := by
  intro l hl _
  apply Evt.out
  unfold laws_FnPatches.f laws_big.f
  simp only [Option.bind_some]
  by_cases hbig : (l.length : Int) > 4096
  · rw [decide_eq_true hbig]
    exact Evt.ite_pos rfl Evt.pure
  · rw [decide_eq_false hbig]
    have hb : Bytes l := bytes_of hl.2 (by omega)
    obtain ⟨⟨p, w, s, h, a, b⟩, hd, hpl⟩ := draw_patch_ok hb
    simp only at hpl
    obtain ⟨⟨r, c⟩, h1, h2, hp⟩ := patch_both (l := p) (by omega) w s h a b
    refine Evt.ite_neg (by simp) (hd.bind (h2.bind (h1.bind (Evt.ite_pos rfl ?_))))
    refine Evt.step (fun k => rfl) ?_
    simp only [laws_FnPatches.j0]
    refine Evt.ite_neg (by simp) ?_
    by_cases hc : c = 0
    · refine Evt.ite_pos hc ?_
      obtain ⟨W, H, rfl, rfl, hW, hH, rfl⟩ := hp hc
      obtain ⟨W, rfl⟩ : ∃ m, W = m + 1 := ⟨W - 1, by omega⟩
      obtain ⟨H, rfl⟩ : ∃ m, H = m + 1 := ⟨H - 1, by omega⟩
      have hlen := patch_len p w s h (W + 1) H
      obtain ⟨t, ht⟩ := patch_first p w s h W H
      rw [ht] at hlen ⊢
      have hm : (H + 1) * (W + 1 + 1) ≤ 420 := Nat.mul_le_mul (show H + 1 ≤ 20 by omega) (show W + 1 + 1 ≤ 21 by omega)
      have e1 : wrap64 (((W + 1 : Nat) : Int) + 1) = ((W + 1 + 1 : Nat) : Int) := wrap_succ (n := 100) (by omega) (by omega)
      have e2 : ((H + 1 : Nat) : Int) * ((W + 1 + 1 : Nat) : Int) = (((H + 1) * (W + 1 + 1) : Nat) : Int) := (Int.natCast_mul _ _).symm
      rw [e1, e2, strP_size, bt_first]
      exact Evt.ite_pos (size_eq hlen hm) (Evt.ite_pos (by rw [List.length_cons]; exact Int.natCast_pos.2 (Nat.succ_pos _)) Evt.pure)
    · exact Evt.ite_neg hc Evt.pure
end Go.Proofs.Ytpinaeegopdknaa.Pure
end
