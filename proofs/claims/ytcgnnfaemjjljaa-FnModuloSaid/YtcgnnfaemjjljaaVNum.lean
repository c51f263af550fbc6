/- Plain facts on numbers: ranges, remainders, cells modulo a lattice; conditions stand with each. -/
import Derived.Test.YtcgnnfaemjjljaaQ5
import Derived.Test.YtcgnnfaemjjljaaQ7
import Derived.Test.YtcgnnfaemjjljaaQ8
import Derived.Test.YtcgnnfaemjjljaaQ0
import Derived.Test.YtcgnnfaemjjljaaOpn
namespace Go.Proofs.Ytcgnnfaemjjljaa.Pure
open Go.RowKit Go.Proofs.Ytcgnnfaemjjljaa Go.Proofs.Ytcgnnfaemjjljaa.Q Go.Proofs.YtcgnnfaemjjljaaW.PrintWords
set_option linter.unusedVariables false
set_option linter.unusedSimpArgs false

theorem w64 {n : Int} (h0 : -9223372036854775808 ≤ n) (h1 : n ≤ 9223372036854775807) : wrap64 n = n := by
  unfold wrap64
  omega
theorem in_eq (a b c : Int) : spec_l01In.f a b c = some (decide (b ≤ a ∧ a ≤ c)) := by
  unfold spec_l01In.f
  by_cases h : a ≥ b
  · rw [if_pos h]; simp; intro _; exact h
  · rw [if_neg h]; simp; intro h2; omega
theorem within_eq (a b c : Int) : impl_within.f a b c = some (decide (b ≤ a ∧ a ≤ c)) := in_eq a b c

/-- A lattice is valid. -/
def Lat (w s h : Int) : Bool := decide (1 ≤ w ∧ w ≤ 40) && (decide (1 ≤ h ∧ h ≤ 40) && decide (0 ≤ s ∧ s ≤ w - 1))
theorem Lat_iff {w s h : Int} : Lat w s h = true ↔ 1 ≤ w ∧ w ≤ 40 ∧ 1 ≤ h ∧ h ≤ 40 ∧ 0 ≤ s ∧ s < w := by
  unfold Lat
  simp
  omega
theorem isLattice_spec (w s h : Int) : spec_IsLattice.f w s h = some (Lat w s h) := by
  unfold spec_IsLattice.f Lat
  rw [in_eq]
  simp only [Option.bind_some]
  by_cases c1 : 1 ≤ w ∧ w ≤ 40
  · rw [if_pos (by simpa using c1), in_eq]
    simp only [Option.bind_some]
    by_cases c2 : 1 ≤ h ∧ h ≤ 40
    · rw [if_pos (by simpa using c2), in_eq, w64 (by omega) (by omega)]
      simp [c1, c2]
    · rw [if_neg (by simpa using c2)]
      simp [c2]
  · rw [if_neg (by simpa using c1)]
    simp [c1]
theorem isLattice_impl (w s h : Int) : impl_IsLattice.f w s h = some (Lat w s h) := isLattice_spec w s h
theorem isLattice_both (w s h : Int) : ∃ r, spec_IsLattice.f w s h = some r ∧ impl_IsLattice.f w s h = some r := ⟨_, isLattice_spec w s h, isLattice_impl w s h⟩

theorem tmod_bound (a m : Int) (hm : 0 < m) : -m < Int.tmod a m ∧ Int.tmod a m < m := by
  have h1 := Int.tmod_lt_of_pos a hm
  have h2 := Int.lt_tmod_of_pos a hm
  exact ⟨h2, h1⟩
theorem mod_eq (a m : Int) (hm : 0 < m) (hb : m ≤ 1000000000) : Int.tmod (wrap64 (Int.tmod a m + m)) m = a % m := by
  obtain ⟨h1, h2⟩ := tmod_bound a m hm
  rw [w64 (by omega) (by omega), Int.tmod_eq_emod_of_nonneg (by omega)]
  have h3 := Int.mul_tdiv_add_tmod a m
  have h4 : Int.tmod a m + m = a + m * (1 - Int.tdiv a m) := by rw [Int.mul_sub, Int.mul_one]; omega
  rw [h4, Int.add_mul_emod_self_left]
theorem l01Mod_eq (a m : Int) (hm : 0 < m) (hb : m ≤ 1000000000) : spec_l01Mod.f a m = some (a % m) := by
  unfold spec_l01Mod.f
  rw [if_neg (by omega), mod_eq a m hm hb]
theorem modOf_eq (a m : Int) (hm : 0 < m) (hb : m ≤ 1000000000) : impl_modOf.f a m = some (a % m) := l01Mod_eq a m hm hb
theorem floor_div (a m : Int) (hm : 0 < m) : Int.tdiv (a - a % m) m = a / m := by
  have h := Int.mul_ediv_add_emod a m
  have h2 : a - a % m = m * (a / m) := by omega
  rw [h2, Int.mul_tdiv_cancel_left _ (by omega)]
theorem div_abs (a m b : Int) (hm : 1 ≤ m) (h0 : -b ≤ a) (h1 : a ≤ b) : -b ≤ a / m ∧ a / m ≤ b := by
  have hb : 0 ≤ b := by omega
  constructor
  · rw [Int.le_ediv_iff_mul_le (by omega)]
    have : -b * m ≤ -b * 1 := Int.mul_le_mul_of_nonpos_left (by omega) hm
    omega
  · rcases Int.lt_or_le a 0 with hn | hp
    · have := Int.ediv_neg_of_neg_of_pos hn (by omega : (0:Int) < m)
      omega
    · exact Int.le_trans (Int.ediv_le_self m hp) h1
/-- The cell that is equal to a cell modulo a lattice. -/
def cm (x y w s h : Int) : Int × Int := ((x - y / h * s) % w, y % h)
theorem mul_small {q s : Int} (h0 : -1000000 ≤ q) (h1 : q ≤ 1000000) (s0 : 0 ≤ s) (s1 : s ≤ 40) : -40000000 ≤ q * s ∧ q * s ≤ 40000000 := by
  constructor
  · have h2 : -1000000 * s ≤ q * s := Int.mul_le_mul_of_nonneg_right h0 s0
    omega
  · have h2 : q * s ≤ 1000000 * s := Int.mul_le_mul_of_nonneg_right h1 s0
    omega
theorem l24Cell_eq {x y w s h : Int} (hL : Lat w s h = true) (x0 : -1000000 ≤ x) (x1 : x ≤ 1000000) (y0 : -1000000 ≤ y) (y1 : y ≤ 1000000) : spec_l24Cell.f x y w s h = some (cm x y w s h) := by
  obtain ⟨w0, w1, h0, h1, s0, s1⟩ := Lat_iff.1 hL
  have hq := div_abs y h 1000000 h0 y0 y1
  have hm0 := Int.emod_nonneg y (by omega : h ≠ 0)
  have hm1 := Int.emod_lt_of_pos y (by omega : 0 < h)
  have e := Int.mul_ediv_add_emod y h
  have hs := mul_small hq.1 hq.2 s0 (by omega)
  have hh := mul_small hq.1 hq.2 (by omega : 0 ≤ h) h1
  unfold spec_l24Cell.f spec_l24Floor.f cm
  rw [l01Mod_eq y h (by omega) (by omega)]
  simp only [Option.bind_some]
  rw [if_neg (by omega), w64 (n := y - y % h) (by omega) (by omega), floor_div y h (by omega), w64 (n := y / h) (by omega) (by omega)]
  simp only [Option.bind_some]
  rw [w64 (n := y / h * s) (by omega) (by omega), w64 (n := x - y / h * s) (by omega) (by omega), l01Mod_eq _ w (by omega) (by omega)]
  simp only [Option.bind_some]
  rw [w64 (n := y / h * h) (by omega) (by omega), w64 (by rw [Int.mul_comm]; omega) (by rw [Int.mul_comm]; omega)]
  have : y - y / h * h = y % h := by rw [Int.mul_comm]; omega
  rw [this]
theorem modulo_eq {x y w s h : Int} (hL : Lat w s h = true) (x0 : -1000000 ≤ x) (x1 : x ≤ 1000000) (y0 : -1000000 ≤ y) (y1 : y ≤ 1000000) : impl_Lattice_modulo.f w s h x y = some (cm x y w s h) := by
  obtain ⟨w0, w1, h0, h1, s0, s1⟩ := Lat_iff.1 hL
  have hq := div_abs y h 1000000 h0 y0 y1
  have hm0 := Int.emod_nonneg y (by omega : h ≠ 0)
  have hm1 := Int.emod_lt_of_pos y (by omega : 0 < h)
  have hs := mul_small hq.1 hq.2 s0 (by omega)
  unfold impl_Lattice_modulo.f cm
  rw [modOf_eq y h (by omega) (by omega)]
  simp only [Option.bind_some]
  rw [if_neg (by omega), w64 (n := y - y % h) (by omega) (by omega), floor_div y h (by omega), w64 (n := y / h) (by omega) (by omega), w64 (n := y / h * s) (by omega) (by omega), w64 (by omega) (by omega), modOf_eq _ w (by omega) (by omega)]
  rfl
/-- A coordinate of a cell. -/
def Co (x : Int) : Bool := decide (-100 ≤ x ∧ x ≤ 100)
theorem Co_iff {x : Int} : Co x = true ↔ -100 ≤ x ∧ x ≤ 100 := by simp [Co]
theorem l02Cell_eq (x y : Int) : spec_l02Cell.f x y = some (Co x && Co y) := by
  unfold spec_l02Cell.f Co
  rw [in_eq]
  simp only [Option.bind_some]
  by_cases c : -100 ≤ x ∧ x ≤ 100
  · rw [if_pos (by simpa using c), in_eq]
    simp [c]
  · rw [if_neg (by simpa using c)]
    simp [c]
theorem isCoordinate_eq (x : Int) : impl_isCoordinate.f x = some (Co x) := by
  unfold impl_isCoordinate.f
  rw [within_eq]
  rfl
end Go.Proofs.Ytcgnnfaemjjljaa.Pure
