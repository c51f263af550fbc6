/- Words of the four letters: what the program and the reference make of a string; a string no longer than an int. -/
import Derived.Test.YtcgnnfaemjjljaaDoorVEvt
import Derived.Test.YtcgnnfaemjjljaaDoorVNum0
import Derived.Lib.Strings
import Derived.Test.YtcgnnfaemjjljaaDoorQ2
import Derived.Test.YtcgnnfaemjjljaaDoorQGstringsTrim
import Derived.Test.YtcgnnfaemjjljaaDoorQ5
import Derived.Test.YtcgnnfaemjjljaaDoorQGimplturnWord
import Derived.Test.YtcgnnfaemjjljaaDoorQ12
import Derived.Test.YtcgnnfaemjjljaaDoorQGstringsCount
import Derived.Test.YtcgnnfaemjjljaaDoorQ14
import Derived.Test.YtcgnnfaemjjljaaDoorQGimplWordArea
import Derived.Test.YtcgnnfaemjjljaaDoorQ0
import Derived.Test.YtcgnnfaemjjljaaDoorOpn
namespace Go.Proofs.YtcgnnfaemjjljaaDoor.Pure
open Go.RowKit Go.Proofs.YtcgnnfaemjjljaaDoor Go.Proofs.YtcgnnfaemjjljaaDoor.Q Go.Proofs.YtcgnnfaemjjljaaDoorW.PrintWords
set_option linter.unusedVariables false
set_option linter.unusedSimpArgs false

abbrev bl (s : ByteArray) : List UInt8 := s.data.toList
theorem bl_len (s : ByteArray) : (bl s).length = s.size := by
  unfold bl
  rw [Array.length_toList]
  rfl
theorem bl_inj {s t : ByteArray} (h : bl s = bl t) : s = t := by
  obtain ⟨⟨a⟩⟩ := s
  obtain ⟨⟨b⟩⟩ := t
  have h : a = b := h
  rw [h]
theorem toList_bl (s : ByteArray) : s.toList = bl s := Lib.toList_data s
theorem bt_bl (s : ByteArray) (i : Nat) (h : i < (bl s).length) : bt s (i : Int) = (((bl s)[i]).toNat : Int) := by
  have h2 : i < s.size := by rw [← bl_len]; exact h
  unfold bt
  rw [Int.toNat_natCast, dif_pos h2]
  rfl
theorem u8_iff (b : UInt8) (n : Nat) (hn : n < 256) : ((b.toNat : Int) = (n : Int)) ↔ b = UInt8.ofNat n := by
  constructor
  · intro h
    apply UInt8.toNat_inj.1
    rw [UInt8.toNat_ofNat_of_lt' (by simpa using hn)]
    omega
  · intro h
    rw [h, UInt8.toNat_ofNat_of_lt' (by simpa using hn)]
theorem u114 (b : UInt8) : ((b.toNat : Int) = 114) ↔ b = 114 := u8_iff b 114 (by omega)
theorem u100 (b : UInt8) : ((b.toNat : Int) = 100) ↔ b = 100 := u8_iff b 100 (by omega)
theorem u108 (b : UInt8) : ((b.toNat : Int) = 108) ↔ b = 108 := u8_iff b 108 (by omega)
theorem u117 (b : UInt8) : ((b.toNat : Int) = 117) ↔ b = 117 := u8_iff b 117 (by omega)
theorem isL_iff (b : UInt8) : isL b = true ↔ b = 114 ∨ b = 100 ∨ b = 108 ∨ b = 117 := by
  unfold isL
  simp
  constructor
  · rintro (((h | h) | h) | h) <;> simp [h]
  · rintro (h | h | h | h) <;> simp [h]

/-- The string is a word. -/
def isW (s : ByteArray) : Bool := (bl s).all isL && decide (s.size ≤ 200)
theorem isW_all {s : ByteArray} (h : isW s = true) : (bl s).all isL = true := (Bool.and_eq_true_iff.mp h).1
theorem isW_size {s : ByteArray} (h : isW s = true) : s.size ≤ 200 := by simpa using (Bool.and_eq_true_iff.mp h).2
theorem l23Is_eq (s : ByteArray) (hs : s.size ≤ 9223372036854775807) : Evt (fun k => spec_l23Is.f k s) (isW s) := by
  unfold spec_l23Is.f
  have h := Evt.up (g := fun k i => spec_l23Is.l0 k s (i : Int)) (R := fun i => ((bl s).drop i).all isL && decide (s.size ≤ 200)) (n := s.size) ?_ ?_ 0 (Nat.zero_le _)
  · exact h
  · refine Evt.step (fun k => rfl) ?_
    simp only [spec_l23Is.l0]
    refine Evt.ite_neg (by omega) ?_
    rw [List.drop_of_length_le (by rw [bl_len]; omega)]
    refine Evt.const ?_
    congr 1
    simp
    omega
  · intro i hi ih
    have hl : i < (bl s).length := by rw [bl_len]; exact hi
    refine Evt.step (fun k => rfl) ?_
    simp only [spec_l23Is.l0, bt_bl s i hl]
    refine Evt.ite_pos (by omega) (Evt.ite_pos (by omega) ?_)
    rw [List.drop_eq_getElem_cons hl, List.all_cons, wrap_succ hi hs]
    simp only [u114, u100, u108, u117]
    by_cases h1 : (bl s)[i] = 114
    · refine Evt.ite_pos h1 ?_
      rw [show isL (bl s)[i] = true from (isL_iff _).2 (Or.inl h1), Bool.true_and]
      exact ih
    · refine Evt.ite_neg h1 ?_
      by_cases h2 : (bl s)[i] = 100
      · refine Evt.ite_pos h2 ?_
        rw [show isL (bl s)[i] = true from (isL_iff _).2 (Or.inr (Or.inl h2)), Bool.true_and]
        exact ih
      · refine Evt.ite_neg h2 ?_
        by_cases h3 : (bl s)[i] = 108
        · refine Evt.ite_pos h3 ?_
          rw [show isL (bl s)[i] = true from (isL_iff _).2 (Or.inr (Or.inr (Or.inl h3))), Bool.true_and]
          exact ih
        · refine Evt.ite_neg h3 ?_
          by_cases h4 : (bl s)[i] = 117
          · refine Evt.ite_pos h4 ?_
            rw [show isL (bl s)[i] = true from (isL_iff _).2 (Or.inr (Or.inr (Or.inr h4))), Bool.true_and]
            exact ih
          · refine Evt.ite_neg h4 ?_
            rw [show isL (bl s)[i] = false from Bool.eq_false_iff.mpr (fun h => by rcases (isL_iff _).1 h with h | h | h | h <;> contradiction)]
            exact Evt.pure
theorem dw_nil {p : UInt8 → Bool} : ∀ l : List UInt8, (∀ x ∈ l.dropWhile p, p x = true) → l.dropWhile p = []
  | [], _ => rfl
  | a :: r, h => by
    by_cases ha : p a = true
    · rw [List.dropWhile_cons_of_pos ha] at h ⊢
      exact dw_nil r h
    · rw [List.dropWhile_cons_of_neg ha] at h
      exact absurd (h a List.mem_cons_self) ha
theorem dw_all {p : UInt8 → Bool} : ∀ l : List UInt8, l.dropWhile p = [] ↔ ∀ x ∈ l, p x = true
  | [] => by simp
  | a :: r => by
    by_cases ha : p a = true
    · rw [List.dropWhile_cons_of_pos ha, dw_all r]
      simp [ha]
    · rw [List.dropWhile_cons_of_neg ha]
      simp [ha]
theorem trimS_nil (l cs : List UInt8) : Lib.trimS l cs = [] ↔ ∀ b ∈ l, cs.contains b = true := by
  unfold Lib.trimS Lib.trimLeftS Lib.trimRightS
  rw [dw_all]
  constructor
  · intro h b hb
    have h2 : l.reverse.dropWhile (cs.contains ·) = [] := dw_nil _ (fun x hx => h x (by simpa using hx))
    exact (dw_all _).1 h2 b (by simpa using hb)
  · intro h x hx
    have h2 : l.reverse.dropWhile (cs.contains ·) = [] := (dw_all _).2 (fun y hy => h y (by simpa using hy))
    rw [h2] at hx
    simp at hx
theorem circ_contains (b : UInt8) : ([114, 100, 108, 117] : List UInt8).contains b = isL b := by
  rw [Bool.eq_iff_iff, isL_iff]
  simp
theorem isWord_eq (s : ByteArray) : impl_isWord.f s = some (isW s) := by
  unfold impl_isWord.f strings_Trim.f
  by_cases h : s.size ≤ 200
  · rw [if_pos (by omega), if_pos ⟨by omega, by decide, by decide⟩]
    simp only [Option.bind_some]
    congr 1
    unfold isW
    rw [decide_eq_true h, Bool.and_true, Bool.eq_iff_iff, List.all_eq_true, beq_iff_eq, toList_bl]
    show Lib.trimS (bl s) [114, 100, 108, 117] = [] ↔ _
    rw [trimS_nil]
    simp only [circ_contains]
  · rw [if_neg (by omega)]
    unfold isW
    rw [decide_eq_false h, Bool.and_false]

/-! ### closed words -/
def sx : List UInt8 → Int
  | [] => 0
  | b :: r => dxL b + sx r
def sy : List UInt8 → Int
  | [] => 0
  | b :: r => dyL b + sy r
theorem l23Step_eq (b : UInt8) : spec_l23Step.f (b.toNat : Int) = some (dxL b, dyL b) := by
  unfold spec_l23Step.f dxL dyL
  simp only [u114, u100, u108]
  by_cases h1 : b = 114
  · simp [h1]
  · by_cases h2 : b = 100
    · simp [h2]
    · by_cases h3 : b = 108
      · simp [h3]
      · simp [h1, h2, h3]
theorem dx_bd (b : UInt8) : -1 ≤ dxL b ∧ dxL b ≤ 1 := by
  unfold dxL
  repeat (first | split | omega)
theorem dy_bd (b : UInt8) : -1 ≤ dyL b ∧ dyL b ≤ 1 := by
  unfold dyL
  repeat (first | split | omega)
theorem l23End_eq (s : ByteArray) (hs : s.size ≤ 1000000000) : Evt (fun k => spec_l23End.f k s) (sx (bl s), sy (bl s)) := by
  unfold spec_l23End.f
  have h := Evt.upS (g := fun k i (p : Int × Int) => spec_l23End.l0 k s (i : Int) p.1 p.2) (R := fun i p => (p.1 + sx ((bl s).drop i), p.2 + sy ((bl s).drop i))) (P := fun i p => (-(i : Int) ≤ p.1 ∧ p.1 ≤ i) ∧ -(i : Int) ≤ p.2 ∧ p.2 ≤ i) (n := s.size) ?_ ?_ 0 (0, 0) (Nat.zero_le _) (by simp)
  · simpa using h
  · rintro ⟨x, y⟩ _
    refine Evt.step (fun k => rfl) ?_
    simp only [spec_l23End.l0]
    refine Evt.ite_neg (by omega) ?_
    rw [List.drop_of_length_le (by rw [bl_len]; omega)]
    simp only [sx, sy, Int.add_zero]
    exact Evt.pure
  · rintro i ⟨x, y⟩ hi ⟨⟨x0, x1⟩, y0, y1⟩ ih
    have hl : i < (bl s).length := by rw [bl_len]; exact hi
    have bx := dx_bd (bl s)[i]
    have byy := dy_bd (bl s)[i]
    refine Evt.step (fun k => rfl) ?_
    simp only [spec_l23End.l0, bt_bl s i hl, l23Step_eq, Option.bind_some]
    refine Evt.ite_pos (by omega) (Evt.ite_pos (by omega) ?_)
    simp only at x0 x1 y0 y1
    rw [wrap_succ hi (by omega), w64 (n := x + dxL (bl s)[i]) (by omega) (by omega), w64 (n := y + dyL (bl s)[i]) (by omega) (by omega)]
    have h2 := ih (x + dxL (bl s)[i], y + dyL (bl s)[i]) ⟨⟨by simp only; omega, by simp only; omega⟩, by simp only; omega, by simp only; omega⟩
    rw [List.drop_eq_getElem_cons hl]
    simp only [sx, sy] at h2 ⊢
    rw [← Int.add_assoc, ← Int.add_assoc]
    exact h2
/-- The word leads back to where it began. -/
def isC (s : ByteArray) : Bool := sx (bl s) == 0 && sy (bl s) == 0
theorem count_xy : ∀ l : List UInt8, l.all isL = true → sx l = (l.count 114 : Int) - l.count 108 ∧ sy l = (l.count 100 : Int) - l.count 117
  | [], _ => by simp [sx, sy]
  | b :: r, h => by
    rw [List.all_cons, Bool.and_eq_true_iff] at h
    obtain ⟨h1, h2⟩ := count_xy r h.2
    unfold sx sy
    rw [h1, h2]
    rcases (isL_iff b).1 h.1 with rfl | rfl | rfl | rfl <;> simp [dxL, dyL, List.count_cons] <;> omega
theorem isClosed_eq (s : ByteArray) (h : (bl s).all isL = true) : impl_isClosed.f s = some (isC s) := by
  unfold impl_isClosed.f strings_Count.f
  have e : ∀ c : UInt8, (⟨#[c]⟩ : ByteArray).size = 1 := fun _ => rfl
  have g : ∀ c : UInt8, (⟨#[c]⟩ : ByteArray).data.toList.getD 0 0 = c := fun _ => rfl
  simp only [e, g, if_true, Option.bind_some]
  obtain ⟨h1, h2⟩ := count_xy (bl s) h
  unfold Lib.countByte isC
  rw [h1, h2]
  by_cases c : (((bl s).count 114 : Nat) : Int) = ((bl s).count 108 : Nat)
  · rw [if_pos c]
    congr 1
    rw [Bool.eq_iff_iff, Bool.and_eq_true_iff, beq_iff_eq, beq_iff_eq, beq_iff_eq]
    show (((bl s).count 100 : Nat) : Int) = ((bl s).count 117 : Nat) ↔ _
    omega
  · rw [if_neg c]
    congr 1
    symm
    rw [Bool.and_eq_false_iff]
    left
    rw [beq_eq_false_iff_ne]
    omega
theorem implIsClosed_eq (s : ByteArray) : impl_IsClosed.f s = some (isW s && isC s) := by
  unfold impl_IsClosed.f
  rw [isWord_eq]
  simp only [Option.bind_some]
  cases h : isW s
  · rfl
  · rw [if_pos rfl, isClosed_eq s (isW_all h)]
    rfl
theorem specIsClosed_eq (s : ByteArray) (hs : s.size ≤ 9223372036854775807) : Evt (fun k => spec_IsClosed.f k s) (isW s && isC s) := by
  unfold spec_IsClosed.f
  refine (l23Is_eq s hs).bind ?_
  cases h : isW s
  · exact Evt.ite_neg (by decide) Evt.pure
  · refine Evt.ite_pos rfl ((l23End_eq s (by have := isW_size h; omega)).bind ?_)
    exact Evt.pure
end Go.Proofs.YtcgnnfaemjjljaaDoor.Pure
