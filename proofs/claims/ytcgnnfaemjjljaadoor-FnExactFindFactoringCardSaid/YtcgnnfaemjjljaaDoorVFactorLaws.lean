/- IsFactoring and FindFactoring: the program's answers are the reference's. -/
import Derived.Test.YtcgnnfaemjjljaaDoorVFactor
import Derived.Test.YtcgnnfaemjjljaaDoorQGimplturnWord
import Derived.Test.YtcgnnfaemjjljaaDoorQ18
import Derived.Test.YtcgnnfaemjjljaaDoorQ19
import Derived.Test.YtcgnnfaemjjljaaDoorQ21
import Derived.Test.YtcgnnfaemjjljaaDoorQ23
import Derived.Test.YtcgnnfaemjjljaaDoorQ24
import Derived.Test.YtcgnnfaemjjljaaDoorQ0
import Derived.Test.YtcgnnfaemjjljaaDoorOpn
namespace Go.Proofs.YtcgnnfaemjjljaaDoor.Pure
open Go.RowKit Go.Proofs.YtcgnnfaemjjljaaDoor Go.Proofs.YtcgnnfaemjjljaaDoor.Q Go.Proofs.YtcgnnfaemjjljaaDoorW.PrintWords
set_option linter.unusedVariables false
set_option linter.unusedSimpArgs false

/-- What IsFactoring answers. -/
def isF (s : ByteArray) (i a b : Int) : Bool := (isW s && isC s) && (decide (0 < s.size) && (decide ((0 ≤ i ∧ i ≤ (s.size : Int) - 1) ∧ 0 ≤ a ∧ 0 ≤ b) && Fac s (s.size / 2) i.toNat a.toNat b.toNat))
theorem specIsFac_eq (s : ByteArray) (i a b : Int) (hs : s.size ≤ 1048576) : Evt (fun k => spec_IsFactoring.f k s i a b) (isF s i a b) := by
  unfold spec_IsFactoring.f
  refine (specIsClosed_eq s (by omega)).bind ?_
  unfold isF
  cases hw : isW s && isC s
  · exact Evt.ite_neg (by decide) Evt.pure
  · rw [Bool.and_eq_true_iff] at hw
    have hsz := isW_size hw.1
    obtain ⟨h, hh⟩ := closed_even hw.1 hw.2
    have e2 : s.size / 2 = h := by omega
    refine Evt.ite_pos rfl ?_
    rw [Bool.true_and]
    by_cases h0 : 0 < s.size
    · refine Evt.ite_pos (by omega) ?_
      rw [decide_eq_true h0, Bool.true_and]
      simp only [in_eq, Option.bind_some]
      by_cases ha : 0 ≤ a ∧ a ≤ 200
      · rw [decide_eq_true ha]
        refine Evt.ite_pos rfl ?_
        by_cases hb : 0 ≤ b ∧ b ≤ 200
        · rw [decide_eq_true hb]
          refine Evt.ite_pos rfl ?_
          obtain ⟨a, rfl⟩ : ∃ n : Nat, a = (n : Int) := ⟨a.toNat, by omega⟩
          obtain ⟨b, rfl⟩ : ∃ n : Nat, b = (n : Int) := ⟨b.toNat, by omega⟩
          by_cases hi : 0 ≤ i ∧ i ≤ (s.size : Int) - 1
          · obtain ⟨i, rfl⟩ : ∃ n : Nat, i = (n : Int) := ⟨i.toNat, by omega⟩
            rw [decide_eq_true ⟨hi, by omega, by omega⟩, Bool.true_and]
            simp only [Int.toNat_natCast]
            rw [e2]
            exact (specFac_eq s h i a b hh hsz (isW_all hw.1) (by omega) (by omega) (by omega)).bind Evt.pure
          · rw [decide_eq_false (fun c => hi c.1), Bool.false_and]
            refine Evt.bind (a := false) ?_ Evt.pure
            unfold spec_l24Factors.f
            rw [in_eq]
            simp only [Option.bind_some]
            rw [decide_eq_false (by rw [w64 (by omega) (by omega)]; exact hi)]
            refine Evt.ite_neg (by decide) ?_
            refine Evt.step (fun k => rfl) ?_
            simp only [spec_l24Factors.j0]
            exact Evt.ite_pos (by simp) Evt.pure
        · rw [decide_eq_false hb]
          refine Evt.ite_neg (by decide) ?_
          by_cases hb0 : 0 ≤ b
          · have : Fac s (s.size / 2) i.toNat a.toNat b.toNat = false := by
              unfold Fac
              rw [decide_eq_false (by omega), Bool.false_and]
            rw [this, Bool.and_false]
            exact Evt.pure
          · rw [decide_eq_false (by omega), Bool.false_and]
            exact Evt.pure
      · rw [decide_eq_false ha]
        refine Evt.ite_neg (by decide) ?_
        by_cases ha0 : 0 ≤ a
        · have : Fac s (s.size / 2) i.toNat a.toNat b.toNat = false := by
            unfold Fac
            rw [decide_eq_false (by omega), Bool.false_and]
          rw [this, Bool.and_false]
          exact Evt.pure
        · rw [decide_eq_false (by omega), Bool.false_and]
          exact Evt.pure
    · refine Evt.ite_neg (by omega) ?_
      rw [decide_eq_false h0, Bool.false_and]
      exact Evt.pure
theorem implIsFac_eq (s : ByteArray) (i a b : Int) (hs : s.size ≤ 1048576) : Evt (fun k => impl_IsFactoring.f k s i a b) (isF s i a b) := by
  unfold impl_IsFactoring.f
  rw [implIsClosed_eq]
  simp only [Option.bind_some]
  have hj : ∀ r : Bool, r = false → Evt (fun k => impl_IsFactoring.j0 k s i a b true) r := by
    intro r hr
    rw [hr]
    refine Evt.step (fun k => rfl) ?_
    simp only [impl_IsFactoring.j0]
    exact Evt.ite_pos (by simp) Evt.pure
  unfold isF
  cases hw : isW s && isC s
  · exact Evt.ite_neg (by decide) (hj _ rfl)
  · rw [Bool.and_eq_true_iff] at hw
    have hsz := isW_size hw.1
    obtain ⟨h, hh⟩ := closed_even hw.1 hw.2
    have e2 : s.size / 2 = h := by omega
    have hall := isW_all hw.1
    refine Evt.ite_pos (by simp) ?_
    rw [Bool.true_and, within_eq]
    simp only [Option.bind_some]
    rw [w64 (n := (s.size : Int) - 1) (by omega) (by omega)]
    by_cases hi : 0 ≤ i ∧ i ≤ (s.size : Int) - 1
    · rw [decide_eq_true hi]
      obtain ⟨i, rfl⟩ : ∃ n : Nat, i = (n : Int) := ⟨i.toNat, by omega⟩
      refine Evt.step (fun k => rfl) ?_
      simp only [impl_IsFactoring.j0, within_eq, Option.bind_some]
      refine Evt.ite_neg (by decide) ?_
      have hw0 : wrap64 ((s.size : Int) / 2) = (h : Int) := by rw [w64 (by omega) (by omega)]; omega
      rw [hw0, decide_eq_true (by omega : 0 < s.size), Bool.true_and]
      by_cases ha : 0 ≤ a ∧ a ≤ (h : Int)
      · rw [decide_eq_true ha]
        refine Evt.ite_pos rfl ?_
        obtain ⟨a, rfl⟩ : ∃ n : Nat, a = (n : Int) := ⟨a.toNat, by omega⟩
        rw [w64 (n := (h : Int) - a) (by omega) (by omega)]
        by_cases hb : 0 ≤ b ∧ b ≤ (h : Int) - a
        · rw [decide_eq_true hb]
          obtain ⟨b, rfl⟩ : ∃ n : Nat, b = (n : Int) := ⟨b.toNat, by omega⟩
          have hes := ext_sizes s i
          have hx := bl_rot s i
          have hxs : (s.extract i s.size ++ s.extract 0 i).size = s.size := by rw [size_bl, hx, rot_len, bl_len]
          rw [decide_eq_true ⟨hi, by omega, by omega⟩, Bool.true_and]
          simp only [Int.toNat_natCast]
          refine Evt.ite_pos (by simp) (Evt.ite_pos (by omega) (Evt.ite_pos (by omega) (Evt.ite_pos (by omega) ?_)))
          have hf := implFac_eq (s.extract i s.size ++ s.extract 0 i) h a b (by omega) (by omega) (by rw [hx]; exact all_rot hall i) (by omega)
          rw [hx] at hf
          unfold Fac
          rw [e2, decide_eq_true (by omega : a + b ≤ h), Bool.true_and]
          exact hf.bind Evt.pure
        · rw [decide_eq_false hb]
          refine Evt.ite_neg (by decide) ?_
          by_cases hb0 : 0 ≤ b
          · have : Fac s (s.size / 2) ((i : Int)).toNat ((a : Int)).toNat b.toNat = false := by
              unfold Fac
              rw [decide_eq_false (by omega), Bool.false_and]
            rw [this, Bool.and_false]
            exact Evt.pure
          · rw [decide_eq_false (by omega), Bool.false_and]
            exact Evt.pure
      · rw [decide_eq_false ha]
        refine Evt.ite_neg (by decide) ?_
        by_cases ha0 : 0 ≤ a
        · by_cases hb0 : 0 ≤ b
          · have : Fac s (s.size / 2) ((i : Int)).toNat a.toNat b.toNat = false := by
              unfold Fac
              rw [decide_eq_false (by omega), Bool.false_and]
            rw [this, Bool.and_false]
            exact Evt.pure
          · rw [decide_eq_false (by omega), Bool.false_and]
            exact Evt.pure
        · rw [decide_eq_false (by omega), Bool.false_and]
          exact Evt.pure
    · rw [decide_eq_false hi]
      have : decide ((0 ≤ i ∧ i ≤ (s.size : Int) - 1) ∧ 0 ≤ a ∧ 0 ≤ b) = false := decide_eq_false (fun c => hi c.1)
      rw [this, Bool.false_and, Bool.and_false]
      exact hj _ rfl

/-! ### the first factoring -/
theorem rot_take (s : ByteArray) (h i a b : Nat) (hf : Fac s h i a b = true) (hh : s.size = 2 * h) : ((rotL (bl s) i).drop h).take a = backL ((rotL (bl s) i).take a) := by
  unfold Fac at hf
  simp only [Bool.and_eq_true, decide_eq_true_eq] at hf
  have := facB_parts (rotL (bl s) i) h a b (by rw [rot_len, bl_len]; exact hh) hf.1
  rw [hf.2.2] at this
  have h2 := (Bool.and_eq_true_iff.mp this.symm).1
  exact beq_iff_eq.mp h2
theorem find_both (s : ByteArray) (h : Nat) (hh : s.size = 2 * h) (hsz : s.size ≤ 200) (hall : (bl s).all isL = true) : ∀ d i : Nat, i + d = s.size →
    Both (fun k => spec_FindFactoring.l0 k s (s.size : Int) (i : Int)) (fun k => impl_FindFactoring.l0 k s (h : Int) (s.size : Int) (i : Int)) := by
  intro d
  induction d with
  | zero =>
    intro i hi
    refine Both.stepl (fun k => rfl) (Both.stepr (fun k => rfl) ?_)
    simp only [spec_FindFactoring.l0, impl_FindFactoring.l0]
    exact Both.nl (by omega) (Both.nr (by omega) Both.pure)
  | succ d ih =>
    intro i hi
    have hw0 : Aside0 (wrap64 ((s.size : Int) / 2) = (h : Int)) := ⟨by rw [w64 (by omega) (by omega)]; omega⟩
    have hws : Aside0 (wrap64 ((i : Int) + 1) = ((i + 1 : Nat) : Int)) := ⟨by rw [w64 (by omega) (by omega)]; omega⟩
    have hnext := ih (i + 1) (by omega)
    have hes := ext_sizes s i
    have hx := bl_rot s i
    have hxs : (s.extract i s.size ++ s.extract 0 i).size = s.size := by rw [size_bl, hx, rot_len, bl_len]
    have hxa : (bl (s.extract i s.size ++ s.extract 0 i)).all isL = true := by rw [hx]; exact all_rot hall i
    refine Both.stepl (fun k => rfl) (Both.stepr (fun k => rfl) ?_)
    simp only [spec_FindFactoring.l0, impl_FindFactoring.l0]
    refine Both.pl (by omega) (Both.pr (by omega) (Both.pr (by omega) (Both.pr (by omega) ?_)))
    simp only [Int.toNat_natCast]
    refine Both.pr (by omega) ?_
    generalize hxx : (s.extract i s.size ++ s.extract 0 i) = x at hx hxs hxa
    -- the second number
    have inner : ∀ (a : Nat) (_ : a ≤ h) (A : Both (fun k => spec_FindFactoring.l1 k s (s.size : Int) (i : Int) ((a + 1 : Nat) : Int)) (fun k => impl_FindFactoring.l1 k s (h : Int) (i : Int) x ((a + 1 : Nat) : Int) (s.size : Int) (i : Int))) (e b : Nat), a + b + e = h + 1 →
        Both (fun k => spec_FindFactoring.l2 k s (s.size : Int) (i : Int) (a : Int) (b : Int)) (fun k => impl_FindFactoring.l2 k s (h : Int) (i : Int) x (a : Int) (b : Int) (s.size : Int) (i : Int)) := by
      intro a ha A e
      have hwa : Aside0 (wrap64 ((a : Int) + 1) = ((a + 1 : Nat) : Int)) := ⟨by rw [w64 (by omega) (by omega)]; omega⟩
      induction e with
      | zero =>
        intro b hb
        have hab : Aside0 (wrap64 ((a : Int) + (b : Int)) = ((a + b : Nat) : Int)) := ⟨by rw [w64 (by omega) (by omega)]; omega⟩
        refine Both.stepl (fun k => rfl) (Both.stepr (fun k => rfl) ?_)
        simp only [spec_FindFactoring.l2, impl_FindFactoring.l2]
        rw [hab.out, hw0.out, hwa.out]
        exact Both.nl (by omega) (Both.nr (by omega) A)
      | succ e ih2 =>
        intro b hb
        have hab : Aside0 (wrap64 ((a : Int) + (b : Int)) = ((a + b : Nat) : Int)) := ⟨by rw [w64 (by omega) (by omega)]; omega⟩
        have hwb : Aside0 (wrap64 ((b : Int) + 1) = ((b + 1 : Nat) : Int)) := ⟨by rw [w64 (by omega) (by omega)]; omega⟩
        refine Both.stepl (fun k => rfl) (Both.stepr (fun k => rfl) ?_)
        simp only [spec_FindFactoring.l2, impl_FindFactoring.l2]
        rw [hab.out, hw0.out, hwb.out]
        refine Both.pl (by omega) (Both.pr (by omega) ?_)
        have f1 := specFac_eq s h i a b hh hsz hall (by omega) (by omega) (by omega)
        have f2 := implFac_eq x h a b (by omega) (by omega) hxa (by omega)
        have e1 : Fac s h i a b = (zeros a b (h - a - b) && facB (bl x) h a b) := by
          unfold Fac
          rw [decide_eq_true (by omega : a + b ≤ h), Bool.true_and, hx]
        rw [← e1] at f2
        refine Both.bindl f1 (Both.bindr f2 ?_)
        cases Fac s h i a b
        · simp only [Bool.false_eq_true, if_false]
          exact ih2 (b + 1) (by omega)
        · simp only [if_true]
          exact Both.pure
    have outer : ∀ (e a : Nat), a + e = h + 1 → Both (fun k => spec_FindFactoring.l1 k s (s.size : Int) (i : Int) (a : Int)) (fun k => impl_FindFactoring.l1 k s (h : Int) (i : Int) x (a : Int) (s.size : Int) (i : Int)) := by
      intro e
      induction e with
      | zero =>
        intro a ha
        refine Both.stepl (fun k => rfl) (Both.stepr (fun k => rfl) ?_)
        simp only [spec_FindFactoring.l1, impl_FindFactoring.l1]
        rw [hw0.out, hws.out]
        exact Both.nl (by omega) (Both.nr (by omega) hnext)
      | succ e ih3 =>
        intro a ha
        have A := ih3 (a + 1) (by omega)
        have hha : Aside0 (wrap64 ((h : Int) + (a : Int)) = ((h + a : Nat) : Int)) := ⟨by rw [w64 (by omega) (by omega)]; omega⟩
        have hwa : Aside0 (wrap64 ((a : Int) + 1) = ((a + 1 : Nat) : Int)) := ⟨by rw [w64 (by omega) (by omega)]; omega⟩
        have hin := inner a (by omega) A (h + 1 - a) 0 (by omega)
        have z1 : (x.extract 0 a).size ≤ 200 := by rw [size_bl, bl_take, List.length_take, bl_len]; omega
        have b1 := backWord_eq (x.extract 0 a) (by omega) (by rw [bl_take]; exact all_take hxa a)
        refine Both.stepl (fun k => rfl) (Both.stepr (fun k => rfl) ?_)
        simp only [spec_FindFactoring.l1, impl_FindFactoring.l1]
        rw [hw0.out, hha.out, hwa.out]
        refine Both.pl (by omega) (Both.pr (by omega) (Both.pr (by omega) (Both.pr (by omega) (Both.pr (by omega) (Both.pr (by omega) (Both.pr (by omega) ?_))))))
        simp only [Int.toNat_natCast]
        rw [b1]
        simp only [Option.bind_some, toList_bl]
        have m1 : bl (⟨(backL (bl (x.extract 0 a))).toArray⟩ : ByteArray) = backL ((bl x).take a) := by
          show backL (bl (x.extract 0 a)) = _
          rw [bl_take]
        rw [m1]
        simp only [bl_extract, Nat.add_sub_cancel_left]
        by_cases p : ((bl x).drop h).take a = backL ((bl x).take a)
        · exact Both.pr p hin
        · refine Both.nr p ?_
          -- the reference goes through all of the second numbers
          have miss : ∀ (e b : Nat), a + b + e = h + 1 → Both (fun k => spec_FindFactoring.l2 k s (s.size : Int) (i : Int) (a : Int) (b : Int)) (fun k => impl_FindFactoring.l1 k s (h : Int) (i : Int) x ((a + 1 : Nat) : Int) (s.size : Int) (i : Int)) := by
            intro e
            induction e with
            | zero =>
              intro b hb
              have hab : Aside0 (wrap64 ((a : Int) + (b : Int)) = ((a + b : Nat) : Int)) := ⟨by rw [w64 (by omega) (by omega)]; omega⟩
              refine Both.stepl (fun k => rfl) ?_
              simp only [spec_FindFactoring.l2]
              rw [hab.out, hw0.out, hwa.out]
              exact Both.nl (by omega) A
            | succ e ih4 =>
              intro b hb
              have hab : Aside0 (wrap64 ((a : Int) + (b : Int)) = ((a + b : Nat) : Int)) := ⟨by rw [w64 (by omega) (by omega)]; omega⟩
              have hwb : Aside0 (wrap64 ((b : Int) + 1) = ((b + 1 : Nat) : Int)) := ⟨by rw [w64 (by omega) (by omega)]; omega⟩
              refine Both.stepl (fun k => rfl) ?_
              simp only [spec_FindFactoring.l2]
              rw [hab.out, hw0.out, hwb.out]
              refine Both.pl (by omega) ?_
              have f1 := specFac_eq s h i a b hh hsz hall (by omega) (by omega) (by omega)
              have e1 : Fac s h i a b = false := by
                cases hf : Fac s h i a b
                · rfl
                · exact absurd (by rw [hx]; exact rot_take s h i a b hf hh) p
              rw [e1] at f1
              refine Both.bindl f1 ?_
              simp only [Bool.false_eq_true, if_false]
              exact ih4 (b + 1) (by omega)
          exact miss (h + 1 - a) 0 (by omega)
    exact outer (h + 1) 0 (by omega)
theorem findFac_both (s : ByteArray) (hs : s.size ≤ 1048576) : Both (fun k => spec_FindFactoring.f k s) (fun k => impl_FindFactoring.f k s) := by
  unfold spec_FindFactoring.f impl_FindFactoring.f
  rw [isWord_eq]
  simp only [Option.bind_some]
  refine Both.bindl (l23Is_eq s (by omega)) ?_
  cases hw : isW s
  · exact Both.pure
  · simp only [if_true, isClosed_eq s (isW_all hw), Option.bind_some]
    refine Both.bindl (specIsClosed_eq s (by omega)) ?_
    have hsz := isW_size hw
    have hj : Both (fun k => spec_FindFactoring.j0 k s true) (fun k => impl_FindFactoring.j0 k s true) := by
      refine Both.stepl (fun k => rfl) (Both.stepr (fun k => rfl) ?_)
      simp only [spec_FindFactoring.j0, impl_FindFactoring.j0, if_true]
      exact Both.pure
    rw [hw]
    cases hc : isC s
    · exact hj
    · simp only [Bool.and_self, if_true]
      obtain ⟨h, hh⟩ := closed_even hw hc
      have hw0 : Aside0 (wrap64 ((s.size : Int) / 2) = (h : Int)) := ⟨by rw [w64 (by omega) (by omega)]; omega⟩
      by_cases h0 : s.size = 0
      · have e1 : ((s.size : Int) == 0) = true := by rw [beq_iff_eq]; omega
        have e2 : (s.toList == ([] : List UInt8)) = true := by
          rw [beq_iff_eq, toList_bl]
          exact List.length_eq_zero_iff.1 (by rw [bl_len]; exact h0)
        rw [e1, e2]
        exact hj
      · have e1 : ((s.size : Int) == 0) = false := by rw [beq_eq_false_iff_ne]; omega
        have e2 : (s.toList == ([] : List UInt8)) = false := by
          rw [beq_eq_false_iff_ne, toList_bl]
          intro e
          exact h0 (by rw [← bl_len, e]; rfl)
        rw [e1, e2]
        refine Both.stepl (fun k => rfl) (Both.stepr (fun k => rfl) ?_)
        simp only [spec_FindFactoring.j0, impl_FindFactoring.j0, Bool.false_eq_true, if_false]
        rw [hw0.out]
        exact find_both s h hh hsz (isW_all hw) s.size 0 (by omega)
end Go.Proofs.YtcgnnfaemjjljaaDoor.Pure
