/- Factorings of words: the program's and the reference's answers. -/
import Derived.Test.YtcgnnfaemjjljaaDoorVTurned
import Derived.Test.YtcgnnfaemjjljaaDoorQGimplturnWord
import Derived.Test.YtcgnnfaemjjljaaDoorQGimplWordArea
import Derived.Test.YtcgnnfaemjjljaaDoorQ18
import Derived.Test.YtcgnnfaemjjljaaDoorQ20
import Derived.Test.YtcgnnfaemjjljaaDoorQ0
import Derived.Test.YtcgnnfaemjjljaaDoorOpn
namespace Go.Proofs.YtcgnnfaemjjljaaDoor.Pure
open Go.RowKit Go.Proofs.YtcgnnfaemjjljaaDoor Go.Proofs.YtcgnnfaemjjljaaDoor.Q Go.Proofs.YtcgnnfaemjjljaaDoorW.PrintWords
set_option linter.unusedVariables false
set_option linter.unusedSimpArgs false

theorem bl_append (s t : ByteArray) : bl (s ++ t) = bl s ++ bl t := by
  unfold bl
  simp [ByteArray.data_append]
theorem bl_extract (s : ByteArray) (a b : Nat) : bl (s.extract a b) = ((bl s).drop a).take (b - a) := Lib.extract_data s a b
theorem bl_take (s : ByteArray) (b : Nat) : bl (s.extract 0 b) = (bl s).take b := by
  rw [bl_extract]
  simp
theorem bl_drop (s : ByteArray) (a : Nat) : bl (s.extract a s.size) = (bl s).drop a := by
  rw [bl_extract, List.take_of_length_le]
  rw [List.length_drop, bl_len]
  omega
theorem bl_mk (l : List UInt8) : bl (⟨l.toArray⟩ : ByteArray) = l := rfl
theorem size_bl (s : ByteArray) : s.size = (bl s).length := (bl_len s).symm
/-- A word turned by its start. -/
def rotL (l : List UInt8) (s : Nat) : List UInt8 := l.drop s ++ l.take s
theorem rot_len (l : List UInt8) (s : Nat) : (rotL l s).length = l.length := by
  unfold rotL
  rw [List.length_append, List.length_drop, List.length_take]
  omega
theorem all_take {l : List UInt8} (h : l.all isL = true) (n : Nat) : (l.take n).all isL = true := List.all_eq_true.2 fun x hx => List.all_eq_true.1 h x (List.mem_of_mem_take hx)
theorem all_drop {l : List UInt8} (h : l.all isL = true) (n : Nat) : (l.drop n).all isL = true := List.all_eq_true.2 fun x hx => List.all_eq_true.1 h x (List.mem_of_mem_drop hx)
theorem all_rot {l : List UInt8} (h : l.all isL = true) (n : Nat) : (rotL l n).all isL = true := by
  unfold rotL
  rw [List.all_append, all_drop h, all_take h]
  rfl
/-- Two of three numbers are not 0. -/
def zeros (a b c : Nat) : Bool := decide (¬ (a = 0 ∧ b = 0) ∧ ¬ (a = 0 ∧ c = 0) ∧ ¬ (b = 0 ∧ c = 0))
/-- The three parts of the first half, backwards, are the second half. -/
def facB (x : List UInt8) (h a b : Nat) : Bool := x.drop h == backL (x.take a) ++ backL ((x.drop a).take b) ++ backL ((x.drop (a + b)).take (h - (a + b)))
theorem facB_parts (x : List UInt8) (h a b : Nat) (hx : x.length = 2 * h) (hab : a + b ≤ h) :
    facB x h a b = ((x.drop h).take a == backL (x.take a) && ((x.drop (h + a)).take b == backL ((x.drop a).take b) && x.drop (h + a + b) == backL ((x.drop (a + b)).take (h - (a + b))))) := by
  unfold facB
  rw [Bool.eq_iff_iff, Bool.and_eq_true_iff, Bool.and_eq_true_iff, beq_iff_eq, beq_iff_eq, beq_iff_eq, beq_iff_eq]
  have la : (backL (x.take a)).length = a := by rw [back_len, List.length_take]; omega
  have lb : (backL ((x.drop a).take b)).length = b := by rw [back_len, List.length_take, List.length_drop]; omega
  have e1 : x.drop h = (x.drop h).take a ++ ((x.drop (h + a)).take b ++ x.drop (h + a + b)) := by
    have := (List.take_append_drop a (x.drop h)).symm
    rw [List.drop_drop] at this
    have h2 := (List.take_append_drop b (x.drop (h + a))).symm
    rw [List.drop_drop] at h2
    rw [← h2]
    exact this
  have l1 : ((x.drop h).take a).length = a := by rw [List.length_take, List.length_drop]; omega
  have l2 : ((x.drop (h + a)).take b).length = b := by rw [List.length_take, List.length_drop]; omega
  constructor
  · intro e
    rw [e1, List.append_assoc] at e
    obtain ⟨f1, f2⟩ := List.append_inj e (by rw [l1, la])
    obtain ⟨f3, f4⟩ := List.append_inj f2 (by rw [l2, lb])
    exact ⟨f1, f3, f4⟩
  · rintro ⟨f1, f2, f3⟩
    rw [e1, f1, f2, f3, List.append_assoc]
/-- A closed word is of even length. -/
theorem closed_even {s : ByteArray} (hw : isW s = true) (hc : isC s = true) : ∃ h, s.size = 2 * h := by
  have hp : ∀ l : List UInt8, l.all isL = true → ∃ h : Int, (l.length : Int) = 2 * h + (sx l + sy l) := by
    intro l
    induction l with
    | nil => intro _; exact ⟨0, by simp [sx, sy]⟩
    | cons b r ih =>
      intro hl
      rw [List.all_cons, Bool.and_eq_true_iff] at hl
      obtain ⟨h, hh⟩ := ih hl.2
      rw [List.length_cons]
      unfold sx sy
      rcases (isL_iff b).1 hl.1 with rfl | rfl | rfl | rfl
      · exact ⟨h, by simp [dxL, dyL]; omega⟩
      · exact ⟨h, by simp [dxL, dyL]; omega⟩
      · exact ⟨h + 1, by simp [dxL, dyL]; omega⟩
      · exact ⟨h + 1, by simp [dxL, dyL]; omega⟩
  obtain ⟨h, hh⟩ := hp (bl s) (isW_all hw)
  unfold isC at hc
  simp only [Bool.and_eq_true, beq_iff_eq] at hc
  rw [hc.1, hc.2, bl_len] at hh
  exact ⟨h.toNat, by omega⟩
theorem ext_sizes (s : ByteArray) (i : Nat) : (s.extract i s.size).size + (s.extract 0 i).size = s.size := by
  rw [size_bl (s.extract i s.size), size_bl (s.extract 0 i), bl_drop, bl_take, List.length_drop, List.length_take, bl_len]
  omega
theorem bl_rot (s : ByteArray) (i : Nat) : bl (s.extract i s.size ++ s.extract 0 i) = rotL (bl s) i := by
  rw [bl_append, bl_drop, bl_take]
  rfl
/-- The numbers are a factoring of the word, turned by its start. -/
def Fac (s : ByteArray) (h i a b : Nat) : Bool := decide (a + b ≤ h) && (zeros a b (h - a - b) && facB (rotL (bl s) i) h a b)
theorem specFac_j0 (s : ByteArray) (h i a b : Nat) (hs : s.size = 2 * h) (hsz : s.size ≤ 200) (hall : (bl s).all isL = true) (hi : i ≤ s.size) (hab : a + b ≤ h) (z : Bool) :
    Evt (fun k => spec_l24Factors.j0 k s (i : Int) (a : Int) (b : Int) (s.size : Int) z) (!z && facB (rotL (bl s) i) h a b) := by
  refine Evt.step (fun k => rfl) ?_
  simp only [spec_l24Factors.j0]
  cases z with
  | true => exact Evt.ite_pos rfl Evt.pure
  | false =>
    refine Evt.ite_neg (by decide) ?_
    have hw : wrap64 ((s.size : Int) / 2) = ((h : Nat) : Int) := by rw [w64 (by omega) (by omega)]; omega
    have hw2 : wrap64 ((a : Int) + (b : Int)) = ((a + b : Nat) : Int) := by rw [w64 (by omega) (by omega)]; omega
    rw [hw, hw2]
    simp only [Int.toNat_natCast]
    have hes := ext_sizes s i
    have hx := bl_rot s i
    have hxs : (s.extract i s.size ++ s.extract 0 i).size = s.size := by rw [size_bl, hx, rot_len, bl_len]
    have hxa : (bl (s.extract i s.size ++ s.extract 0 i)).all isL = true := by rw [hx]; exact all_rot hall i
    refine Evt.ite_pos (by omega) (Evt.ite_pos (by omega) (Evt.ite_pos (by omega) (Evt.ite_pos (by omega) ?_)))
    generalize (s.extract i s.size ++ s.extract 0 i) = x at hx hxs hxa
    refine Evt.ite_pos (by omega) (Evt.ite_pos (by omega) (Evt.ite_pos (by omega) ?_))
    have z1 : (x.extract 0 a).size ≤ 200 := by rw [size_bl, bl_take, List.length_take, bl_len]; omega
    have z2 : (x.extract a (a + b)).size ≤ 200 := by rw [size_bl, bl_extract, List.length_take, List.length_drop, bl_len]; omega
    have z3 : (x.extract (a + b) h).size ≤ 200 := by rw [size_bl, bl_extract, List.length_take, List.length_drop, bl_len]; omega
    have b1 := l23Back_eq (x.extract 0 a) (by omega) (by rw [bl_take]; exact all_take hxa a)
    have b2 := l23Back_eq (x.extract a (a + b)) (by omega) (by rw [bl_extract]; exact all_take (all_drop hxa a) _)
    have b3 := l23Back_eq (x.extract (a + b) h) (by omega) (by rw [bl_extract]; exact all_take (all_drop hxa _) _)
    have c1 : (⟨(backL (bl (x.extract 0 a))).toArray⟩ : ByteArray).size ≤ 200 := by rw [size_bl, bl_mk, back_len, bl_len]; exact z1
    have c2 : (⟨(backL (bl (x.extract a (a + b)))).toArray⟩ : ByteArray).size ≤ 200 := by rw [size_bl, bl_mk, back_len, bl_len]; exact z2
    have c3 : (⟨(backL (bl (x.extract (a + b) h))).toArray⟩ : ByteArray).size ≤ 200 := by rw [size_bl, bl_mk, back_len, bl_len]; exact z3
    refine b1.bind (Evt.ite_pos (by omega) (Evt.ite_pos (by omega) (b2.bind (Evt.ite_pos (by omega) (Evt.ite_pos (by omega) (Evt.ite_pos (by omega) (b3.bind (Evt.ite_pos ?_ ?_))))))))
    · rw [size_bl, bl_append, List.length_append, bl_len, bl_len]
      omega
    · refine Evt.const ?_
      rw [toList_bl, toList_bl, bl_append, bl_append]
      show some (bl (x.extract h x.size) == backL (bl (x.extract 0 a)) ++ backL (bl (x.extract a (a + b))) ++ backL (bl (x.extract (a + b) h))) = _
      rw [bl_drop, bl_take, bl_extract, bl_extract, hx, Nat.add_sub_cancel_left]
      rfl
theorem specFac_eq (s : ByteArray) (h i a b : Nat) (hs : s.size = 2 * h) (hsz : s.size ≤ 200) (hall : (bl s).all isL = true) (hi : i < s.size) (ha : a ≤ 200) (hb : b ≤ 200) :
    Evt (fun k => spec_l24Factors.f k s (i : Int) (a : Int) (b : Int)) (Fac s h i a b) := by
  unfold spec_l24Factors.f
  rw [in_eq]
  simp only [Option.bind_some]
  have hd : decide ((0 : Int) ≤ (i : Int) ∧ (i : Int) ≤ wrap64 ((s.size : Int) - 1)) = true := decide_eq_true (by rw [w64 (by omega) (by omega)]; omega)
  rw [hd]
  have hw : wrap64 (wrap64 (wrap64 ((s.size : Int) / 2) - (a : Int)) - (b : Int)) = (h : Int) - a - b := by
    rw [w64 (n := (s.size : Int) / 2) (by omega) (by omega), w64 (n := (s.size : Int) / 2 - a) (by omega) (by omega), w64 (by omega) (by omega)]
    omega
  rw [hw]
  refine Evt.ite_pos rfl (Evt.ite_neg (by omega) (Evt.ite_neg (by omega) ?_))
  unfold Fac
  by_cases hab : a + b ≤ h
  · rw [decide_eq_true hab, Bool.true_and]
    have hj := fun z => specFac_j0 s h i a b hs hsz hall (by omega) hab z
    refine Evt.ite_neg (by omega) ?_
    have hT : ∀ (_ : ¬ (¬ (a = 0 ∧ b = 0) ∧ ¬ (a = 0 ∧ h - a - b = 0) ∧ ¬ (b = 0 ∧ h - a - b = 0))), Evt (fun k => spec_l24Factors.j0 k s (i : Int) (a : Int) (b : Int) (s.size : Int) true) (zeros a b (h - a - b) && facB (rotL (bl s) i) h a b) := by
      intro hz
      rw [show zeros a b (h - a - b) = false from decide_eq_false hz]
      exact hj true
    have hF : ∀ (_ : ¬ (a = 0 ∧ b = 0) ∧ ¬ (a = 0 ∧ h - a - b = 0) ∧ ¬ (b = 0 ∧ h - a - b = 0)), Evt (fun k => spec_l24Factors.j0 k s (i : Int) (a : Int) (b : Int) (s.size : Int) false) (zeros a b (h - a - b) && facB (rotL (bl s) i) h a b) := by
      intro hz
      rw [show zeros a b (h - a - b) = true from decide_eq_true hz]
      exact hj false
    by_cases a0 : a = 0
    · refine Evt.ite_pos (by omega) ?_
      by_cases b0 : b = 0
      · exact Evt.ite_pos (by omega) (hT (by omega))
      · refine Evt.ite_neg (by omega) ?_
        by_cases c0 : (h : Int) - a - b = 0
        · exact Evt.ite_pos c0 (hT (by omega))
        · exact Evt.ite_neg c0 (hF (by omega))
    · refine Evt.ite_neg (by omega) ?_
      by_cases b0 : b = 0
      · refine Evt.ite_pos (by omega) ?_
        by_cases c0 : (h : Int) - a - b = 0
        · rw [show ((h : Int) - a - b == 0) = true from by rw [beq_iff_eq]; exact c0]
          exact hT (by omega)
        · rw [show ((h : Int) - a - b == 0) = false from by rw [beq_eq_false_iff_ne]; exact c0]
          exact hF (by omega)
      · exact Evt.ite_neg (by omega) (hF (by omega))
  · rw [decide_eq_false hab, Bool.false_and]
    refine Evt.ite_pos (by omega) ?_
    refine Evt.step (fun k => rfl) ?_
    simp only [spec_l24Factors.j0]
    exact Evt.ite_pos (by simp) Evt.pure

/-! ### the program's -/
theorem implFac_tail (x : ByteArray) (h a b : Nat) (hx : x.size = 2 * h) (hsz : x.size ≤ 200) (hall : (bl x).all isL = true) (hab : a + b ≤ h) (z : Nat) (hz : z ≤ 3) (ys : List Int) (hy : ys.length = 3) :
    Evt (fun k => impl_isFactoring.l0 k x (a : Int) (b : Int) (h : Int) (z : Int) ys (ys.length : Int) 3) (decide (z ≤ 1) && facB (bl x) h a b) := by
  refine Evt.step (fun k => rfl) ?_
  simp only [impl_isFactoring.l0]
  refine Evt.ite_neg (by omega) ?_
  have w1 : wrap64 ((h : Int) + (a : Int)) = ((h + a : Nat) : Int) := by rw [w64 (by omega) (by omega)]; omega
  have w2 : wrap64 (((h + a : Nat) : Int) + (b : Int)) = ((h + a + b : Nat) : Int) := by rw [w64 (by omega) (by omega)]; omega
  have w3 : wrap64 ((a : Int) + (b : Int)) = ((a + b : Nat) : Int) := by rw [w64 (by omega) (by omega)]; omega
  rw [w1, w2, w3]
  simp only [Int.toNat_natCast]
  by_cases hz1 : z ≤ 1
  · rw [decide_eq_true hz1, Bool.true_and, facB_parts _ h a b (by rw [bl_len]; exact hx) hab]
    refine Evt.ite_pos (by omega) ?_
    have z1 : (x.extract 0 a).size ≤ 200 := by rw [size_bl, bl_take, List.length_take, bl_len]; omega
    have z2 : (x.extract a (a + b)).size ≤ 200 := by rw [size_bl, bl_extract, List.length_take, List.length_drop, bl_len]; omega
    have z3 : (x.extract (a + b) h).size ≤ 200 := by rw [size_bl, bl_extract, List.length_take, List.length_drop, bl_len]; omega
    have b1 := backWord_eq (x.extract 0 a) (by omega) (by rw [bl_take]; exact all_take hall a)
    have b2 := backWord_eq (x.extract a (a + b)) (by omega) (by rw [bl_extract]; exact all_take (all_drop hall a) _)
    have b3 := backWord_eq (x.extract (a + b) h) (by omega) (by rw [bl_extract]; exact all_take (all_drop hall _) _)
    rw [b1, b2, b3]
    simp only [Option.bind_some, toList_bl]
    have m1 : bl (⟨(backL (bl (x.extract 0 a))).toArray⟩ : ByteArray) = backL ((bl x).take a) := by
      show backL (bl (x.extract 0 a)) = _
      rw [bl_take]
    have m2 : bl (⟨(backL (bl (x.extract a (a + b)))).toArray⟩ : ByteArray) = backL (((bl x).drop a).take b) := by
      show backL (bl (x.extract a (a + b))) = _
      rw [bl_extract, Nat.add_sub_cancel_left]
    have m3 : bl (⟨(backL (bl (x.extract (a + b) h))).toArray⟩ : ByteArray) = backL (((bl x).drop (a + b)).take (h - (a + b))) := by
      show backL (bl (x.extract (a + b) h)) = _
      rw [bl_extract]
    rw [m1, m2, m3]
    simp only [bl_drop]
    simp only [bl_extract, Nat.add_sub_cancel_left]
    refine Evt.ite_pos (by omega) (Evt.ite_pos (by omega) (Evt.ite_pos (by omega) (Evt.ite_pos (by omega) (Evt.ite_pos (by omega) ?_))))
    by_cases p1 : ((bl x).drop h).take a = backL ((bl x).take a)
    · refine Evt.ite_pos p1 ?_
      rw [beq_iff_eq.2 p1, Bool.true_and]
      refine Evt.ite_pos (by omega) (Evt.ite_pos (by omega) (Evt.ite_pos (by omega) (Evt.ite_pos (by omega) (Evt.ite_pos (by omega) ?_))))
      by_cases p2 : ((bl x).drop (h + a)).take b = backL (((bl x).drop a).take b)
      · refine Evt.ite_pos p2 ?_
        rw [beq_iff_eq.2 p2, Bool.true_and]
        exact Evt.ite_pos (by omega) (Evt.ite_pos (by omega) (Evt.ite_pos (by omega) (Evt.ite_pos (by omega) Evt.pure)))
      · refine Evt.ite_neg p2 ?_
        rw [beq_eq_false_iff_ne.2 p2, Bool.false_and]
        exact Evt.pure
    · refine Evt.ite_neg p1 ?_
      rw [beq_eq_false_iff_ne.2 p1, Bool.false_and]
      exact Evt.pure
  · rw [decide_eq_false hz1, Bool.false_and]
    exact Evt.ite_neg (by omega) Evt.pure
theorem implFac_eq (x : ByteArray) (h a b : Nat) (hx : x.size = 2 * h) (hsz : x.size ≤ 200) (hall : (bl x).all isL = true) (hab : a + b ≤ h) :
    Evt (fun k => impl_isFactoring.f k x (a : Int) (b : Int)) (zeros a b (h - a - b) && facB (bl x) h a b) := by
  unfold impl_isFactoring.f
  simp only [Option.bind_some]
  have hw0 : wrap64 ((x.size : Int) / 2) = (h : Int) := by rw [w64 (by omega) (by omega)]; omega
  have hw : wrap64 (wrap64 ((h : Int) - (a : Int)) - (b : Int)) = ((h - a - b : Nat) : Int) := by
    rw [w64 (n := (h : Int) - a) (by omega) (by omega), w64 (by omega) (by omega)]
    omega
  rw [hw0, hw]
  clear hw0 hw
  generalize h - a - b = c
  obtain ⟨ys, hys⟩ : ∃ ys : List Int, ([(a : Int), (b : Int), (c : Int)] : List Int) = ys := ⟨_, rfl⟩
  have hy : ys.length = 3 := by rw [← hys]; rfl
  have r0 : rd ys 0 = (a : Int) := by rw [← hys]; rfl
  have r1 : rd ys 1 = (b : Int) := by rw [← hys]; rfl
  have r2 : rd ys 2 = (c : Int) := by rw [← hys]; rfl
  rw [hys]
  clear hys
  have hz : zeros a b c = decide ((if a = 0 then 1 else 0) + (if b = 0 then 1 else 0) + (if c = 0 then 1 else 0) ≤ 1) := by
    unfold zeros
    refine decide_eq_decide.2 ?_
    split <;> split <;> split <;> omega
  rw [hz]
  clear hz
  have tail := fun z hz => implFac_tail x h a b hx hsz hall hab z hz ys hy
  generalize facB (bl x) h a b = FB at tail ⊢
  have s2 : ∀ z : Nat, z ≤ 2 → Evt (fun k => impl_isFactoring.l0 k x (a : Int) (b : Int) (h : Int) (z : Int) ys (ys.length : Int) 2) (decide (z + (if c = 0 then 1 else 0) ≤ 1) && FB) := by
    intro z hz2
    have z1 : z + 1 ≤ 3 := by omega
    have z2 : z ≤ 3 := by omega
    have w1 : Aside0 (wrap64 ((z : Int) + 1) = ((z + 1 : Nat) : Int)) := ⟨by rw [w64 (by omega) (by omega)]; omega⟩
    refine Evt.step (fun k => rfl) ?_
    simp only [impl_isFactoring.l0, r2]
    rw [show wrap64 ((2 : Int) + 1) = 3 from by rw [w64 (by omega) (by omega)]; rfl]
    refine Evt.ite_pos (by rw [hy]; omega) (Evt.ite_pos (by omega) (Evt.ite_pos (by rw [hy]; omega) ?_))
    by_cases c0 : c = 0
    · refine Evt.ite_pos (by omega) ?_
      rw [if_pos c0, w1.out]
      exact tail (z + 1) z1
    · refine Evt.ite_neg (by omega) ?_
      rw [if_neg c0]
      exact tail z z2
  have s1 : ∀ z : Nat, z ≤ 1 → Evt (fun k => impl_isFactoring.l0 k x (a : Int) (b : Int) (h : Int) (z : Int) ys (ys.length : Int) 1) (decide (z + (if b = 0 then 1 else 0) + (if c = 0 then 1 else 0) ≤ 1) && FB) := by
    intro z hz2
    have z1 : z + 1 ≤ 2 := by omega
    have z2 : z ≤ 2 := by omega
    have w1 : Aside0 (wrap64 ((z : Int) + 1) = ((z + 1 : Nat) : Int)) := ⟨by rw [w64 (by omega) (by omega)]; omega⟩
    refine Evt.step (fun k => rfl) ?_
    simp only [impl_isFactoring.l0, r1]
    rw [show wrap64 ((1 : Int) + 1) = 2 from by rw [w64 (by omega) (by omega)]; rfl]
    refine Evt.ite_pos (by rw [hy]; omega) (Evt.ite_pos (by omega) (Evt.ite_pos (by rw [hy]; omega) ?_))
    by_cases b0 : b = 0
    · refine Evt.ite_pos (by omega) ?_
      rw [if_pos b0, w1.out]
      exact s2 (z + 1) z1
    · refine Evt.ite_neg (by omega) ?_
      rw [if_neg b0]
      exact s2 z z2
  refine Evt.step (fun k => rfl) ?_
  simp only [impl_isFactoring.l0, r0]
  rw [show wrap64 ((0 : Int) + 1) = 1 from by rw [w64 (by omega) (by omega)]; rfl]
  refine Evt.ite_pos (by rw [hy]; omega) (Evt.ite_pos (by omega) (Evt.ite_pos (by rw [hy]; omega) ?_))
  by_cases a0 : a = 0
  · refine Evt.ite_pos (by omega) ?_
    rw [if_pos a0]
    exact s1 1 (by omega)
  · refine Evt.ite_neg (by omega) ?_
    rw [if_neg a0]
    exact s1 0 (by omega)
end Go.Proofs.YtcgnnfaemjjljaaDoor.Pure
