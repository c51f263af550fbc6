/- Clauses and formulas: the program's and the reference's check; what the laws' conversions of lists of lists give; conditions stand with each. -/
import Derived.Test.YtabmmhkikemdjaaVEvt
import Derived.Test.YtabmmhkikemdjaaVNum0
import Derived.Test.YtabmmhkikemdjaaQ1
import Derived.Test.YtabmmhkikemdjaaQ2
import Derived.Test.YtabmmhkikemdjaaQ3
import Derived.Test.YtabmmhkikemdjaaQ7
import Derived.Test.YtabmmhkikemdjaaQ8
import Derived.Test.YtabmmhkikemdjaaQGimplIsFormula
import Derived.Test.YtabmmhkikemdjaaQ10
import Derived.Test.YtabmmhkikemdjaaQ0
import Derived.Test.YtabmmhkikemdjaaOpn
namespace Go.Proofs.Ytabmmhkikemdjaa.Pure
open Go.RowKit Go.Proofs.Ytabmmhkikemdjaa Go.Proofs.Ytabmmhkikemdjaa.Q Go.Proofs.YtabmmhkikemdjaaW.PrintWords
set_option linter.unusedVariables false
set_option linter.unusedSimpArgs false

theorem gd {α : Type} (l : List α) (i : Nat) (z : α) (h : i < l.length) : l.getD i z = l[i] := by simp [List.getD_eq_getElem?_getD, List.getElem?_eq_getElem h]
theorem dropD {α : Type} (l : List α) (i : Nat) (z : α) (h : i < l.length) : l.drop i = l.getD i z :: l.drop (i + 1) := by
  rw [List.drop_eq_getElem_cons h, gd l i z h]
theorem rdN (l : List Int) (i : Nat) : rd l (i : Int) = l.getD i 0 := by simp [rd]
theorem rdL1 (l : List (List Int)) (i : Nat) : rd_L1 l (i : Int) = l.getD i [] := by simp [rd_L1]
theorem getD_mem {α : Type} (l : List α) (i : Nat) (z : α) (h : i < l.length) : l.getD i z ∈ l := by rw [gd l i z h]; exact List.getElem_mem h

/-- The absolute value, as both tell it. -/
def ab (a : Int) : Int := mx a (wrap64 (-a))
theorem ab_eq {a : Int} (h0 : -1000000 ≤ a) (h1 : a ≤ 1000000) : ab a = if a < 0 then -a else a := by
  unfold ab mx
  rw [w64 (by omega) (by omega)]
  by_cases h : a < 0
  · rw [if_pos (by omega), if_pos h]
  · rw [if_neg h]
    by_cases h2 : a < -a
    · omega
    · rw [if_neg h2]
theorem variableOf_eq (a : Int) : impl_variableOf.f a = some (ab a) := rfl
theorem l01Abs_eq (a : Int) : spec_l01Abs.f a = some (ab a) := rfl

/-- A clause over v variables, whose variables stand above a number. -/
def cl (v : Int) : Int → List Int → Bool
  | _, [] => true
  | last, n :: r => if -v ≤ n ∧ n ≤ v then (if ab n ≤ last then false else cl v (ab n) r) else false
theorem isClause_eq (l : List Int) (v : Int) (hv0 : 0 ≤ v) (hv : v ≤ 400) (hl : l.length ≤ 1000000000) : Evt (fun k => impl_isClause.f k l v) (cl v 0 l) := by
  unfold impl_isClause.f
  refine Evt.upS (g := fun k i s => impl_isClause.l0 k v s l (l.length : Int) (i : Int)) (R := fun i s => cl v s (l.drop i)) (P := fun _ _ => True) (n := l.length) ?_ ?_ 0 0 (Nat.zero_le _) trivial
  · rintro s _
    refine Evt.step (fun k => rfl) ?_
    simp only [impl_isClause.l0]
    rw [List.drop_length]
    exact Evt.ite_neg (by omega) Evt.pure
  · rintro i s hi _ ih
    refine Evt.step (fun k => rfl) ?_
    have ih' := ih (ab (l.getD i 0)) trivial
    simp only [impl_isClause.l0, rdN, within_eq, variableOf_eq, Option.bind_some]
    refine Evt.ite_pos (by omega) (Evt.ite_pos (by omega) (Evt.ite_pos (by omega) ?_))
    rw [wrap_succ hi (by omega), dropD l i 0 hi, w64 (n := -v) (by omega) (by omega)]
    unfold cl
    by_cases c : -v ≤ l.getD i 0 ∧ l.getD i 0 ≤ v
    · rw [if_pos c]
      refine Evt.ite_pos (by simpa using c) ?_
      by_cases c2 : ab (l.getD i 0) ≤ s
      · rw [if_pos c2]
        exact Evt.ite_pos c2 Evt.pure
      · rw [if_neg c2]
        exact Evt.ite_neg c2 ih'
    · rw [if_neg c]
      exact Evt.ite_neg (by simpa using c) Evt.pure
theorem l20Clause_eq (l : List Int) (v : Int) (hv0 : 0 ≤ v) (hv : v ≤ 400) (hl : l.length ≤ 1000000000) : Evt (fun k => spec_l20Clause.f k l v) (cl v 0 l) := by
  unfold spec_l20Clause.f
  refine Evt.upS (g := fun k i _ => spec_l20Clause.l0 k l v (i : Int)) (R := fun i s => cl v s (l.drop i)) (P := fun i s => 0 ≤ s ∧ (i = 0 → s = 0) ∧ ∀ j, i = j + 1 → s = ab (l.getD j 0)) (n := l.length) ?_ ?_ 0 0 (Nat.zero_le _) ⟨by omega, fun _ => rfl, fun j hj => by omega⟩
  · rintro s _
    refine Evt.step (fun k => rfl) ?_
    simp only [spec_l20Clause.l0]
    rw [List.drop_length]
    exact Evt.ite_neg (by omega) Evt.pure
  · rintro i s hi ⟨hs0, hs1, hs2⟩ ih
    refine Evt.step (fun k => rfl) ?_
    simp only [spec_l20Clause.l0, rdN, in_eq, l01Abs_eq, Option.bind_some]
    refine Evt.ite_pos (by omega) (Evt.ite_pos (by omega) ?_)
    rw [wrap_succ hi (by omega), dropD l i 0 hi, w64 (n := -v) (by omega) (by omega)]
    unfold cl
    generalize hn : l.getD i 0 = n at ih ⊢
    by_cases c : -v ≤ n ∧ n ≤ v
    · have hab := ab_eq (a := n) (by omega) (by omega)
      have ha0 : 0 ≤ ab n := by rw [hab]; split <;> omega
      have hz : ab n ≤ 0 ↔ n = 0 := by rw [hab]; constructor <;> intro h <;> (first | (split at h <;> omega) | (subst h; simp))
      have ih' := ih (ab n) ⟨ha0, fun h => by omega, fun j hj => by obtain rfl : i = j := by omega
                                                                    rw [hn]⟩
      rw [if_pos c]
      by_cases c1 : n = 0
      · have c2 : ab n ≤ s := by have := hz.2 c1; omega
        rw [if_pos c2]
        exact Evt.ite_pos c1 Evt.pure
      · refine Evt.ite_neg c1 (Evt.ite_pos (by simpa using c) ?_)
        by_cases c0 : i = 0
        · have e := hs1 c0
          rw [if_neg (by rw [e]; exact fun h => c1 (hz.1 h))]
          exact Evt.ite_neg (by omega) ih'
        · obtain ⟨j, rfl⟩ : ∃ j, i = j + 1 := ⟨i - 1, by omega⟩
          have e := hs2 j rfl
          refine Evt.ite_pos (by omega) ?_
          have ej : wrap64 (((j + 1 : Nat) : Int) - 1) = (j : Int) := by rw [w64 (by omega) (by omega)]; omega
          rw [ej, rdN, ← e]
          refine Evt.ite_pos (by omega) (Evt.ite_pos (by omega) ?_)
          by_cases c2 : ab n ≤ s
          · rw [if_pos c2]
            exact Evt.ite_pos c2 Evt.pure
          · rw [if_neg c2]
            exact Evt.ite_neg c2 ih'
    · rw [if_neg c]
      by_cases c1 : n = 0
      · exact absurd ⟨by omega, by omega⟩ c
      · exact Evt.ite_neg c1 (Evt.ite_neg (by simpa using c) Evt.pure)

/-- A formula. -/
def fm (v : Int) (cs : List (List Int)) : Bool := decide (0 ≤ v ∧ v ≤ 400) && (!decide ((cs.length : Int) > 20000) && cs.all (cl v 0))
theorem fm_iff {v : Int} {cs : List (List Int)} : fm v cs = true ↔ (0 ≤ v ∧ v ≤ 400) ∧ cs.length ≤ 20000 ∧ ∀ c ∈ cs, cl v 0 c = true := by
  unfold fm
  simp [List.all_eq_true]
  omega
def LL (cs : List (List Int)) : Prop := cs.length ≤ 1000000000 ∧ ∀ c ∈ cs, c.length ≤ 1000000000
theorem all_eq (v : Int) (hv0 : 0 ≤ v) (hv : v ≤ 400) : ∀ (cs : List (List Int)), (∀ c ∈ cs, c.length ≤ 1000000000) → Evt (fun k => impl_IsFormula.all k v cs) (cs.all (cl v 0))
  | [], _ => Evt.pure
  | c :: r, h => by
    have ih := all_eq v hv0 hv r (fun d hd => h d (List.mem_cons_of_mem _ hd))
    refine Evt.of_eq (fun k => rfl) ((isClause_eq c v hv0 hv (h c List.mem_cons_self)).bind ?_)
    rw [List.all_cons]
    cases e : cl v 0 c
    · exact Evt.ite_neg (by simp) Evt.pure
    · refine Evt.ite_pos rfl ?_
      rw [Bool.true_and]
      exact ih
theorem IsFormula_impl (v : Int) (cs : List (List Int)) (h : LL cs) : Evt (fun k => impl_IsFormula.f k v cs) (fm v cs) := by
  unfold impl_IsFormula.f fm
  simp only [within_eq, Option.bind_some]
  by_cases c : 0 ≤ v ∧ v ≤ 400
  · refine Evt.ite_pos (by simpa using c) ?_
    by_cases c2 : (cs.length : Int) > 20000
    · simp only [c2, decide_true, Bool.not_true, Bool.false_and, Bool.and_false]
      exact Evt.ite_pos trivial Evt.pure
    · simp only [c, c2, decide_true, decide_false, Bool.not_false, Bool.true_and, and_self]
      exact Evt.ite_neg (by simp) (all_eq v c.1 c.2 cs h.2)
  · simp only [c, decide_false, Bool.false_and]
    exact Evt.ite_neg (by simp) Evt.pure
theorem IsFormula_spec (v : Int) (cs : List (List Int)) (h : LL cs) : Evt (fun k => spec_IsFormula.f k v cs) (fm v cs) := by
  unfold spec_IsFormula.f fm
  simp only [in_eq, Option.bind_some]
  have hl := h.1
  by_cases c : 0 ≤ v ∧ v ≤ 400
  · refine Evt.ite_pos (by simpa using c) (Evt.step (fun k => rfl) ?_)
    simp only [spec_IsFormula.j0]
    by_cases c2 : (cs.length : Int) > 20000
    · simp only [c2, decide_true, Bool.not_true, Bool.false_and, Bool.and_false]
      exact Evt.ite_pos (by simp) Evt.pure
    · simp only [c, c2, decide_true, decide_false, Bool.not_false, Bool.true_and, and_self]
      refine Evt.ite_neg (by simp) ?_
      refine Evt.up (g := fun k i => spec_IsFormula.l0 k (i : Int) v cs) (R := fun i => (cs.drop i).all (cl v 0)) (n := cs.length) ?_ ?_ 0 (Nat.zero_le _)
      · refine Evt.step (fun k => rfl) ?_
        simp only [spec_IsFormula.l0]
        rw [List.drop_length]
        exact Evt.ite_neg (by omega) Evt.pure
      · intro i hi ih
        refine Evt.step (fun k => rfl) ?_
        simp only [spec_IsFormula.l0, rdL1]
        refine Evt.ite_pos (by omega) (Evt.ite_pos (by omega) ?_)
        refine (l20Clause_eq (cs.getD i []) v c.1 c.2 (h.2 _ (getD_mem cs i [] hi))).bind ?_
        rw [wrap_succ hi (by omega), dropD cs i [] hi, List.all_cons]
        cases e : cl v 0 (cs.getD i [])
        · exact Evt.ite_neg (by simp) Evt.pure
        · refine Evt.ite_pos rfl ?_
          rw [Bool.true_and]
          exact ih
  · simp only [c, decide_false, Bool.false_and]
    refine Evt.ite_neg (by simp) (Evt.step (fun k => rfl) ?_)
    simp only [spec_IsFormula.j0]
    exact Evt.ite_pos (by simp) Evt.pure

/-- What is left of a number when a list's lists are counted; below 0 it stops. -/
def szs : Int → List (List Int) → Int
  | t, [] => t
  | t, c :: r => if t - c.length < 0 then -1 else szs (t - c.length) r
theorem szs_le : ∀ (l : List (List Int)) (t : Int), 0 ≤ t → 0 ≤ szs t l → ∀ c ∈ l, (c.length : Int) ≤ t
  | [], _, _, _ => fun _ h => by cases h
  | c :: r, t, h0, h => by
    unfold szs at h
    by_cases h1 : t - c.length < 0
    · rw [if_pos h1] at h; omega
    · rw [if_neg h1] at h
      have ih := szs_le r _ (by omega) h
      intro d hd
      rcases List.mem_cons.1 hd with rfl | hd
      · omega
      · have := ih d hd; omega
theorem szInt64SS_eq (cs : List (List Int)) (a : Int) (ha0 : 0 ≤ a) (ha : a ≤ 1000000000) (hl : cs.length ≤ maxLen) (hc : ∀ c ∈ cs, c.length ≤ maxLen) : Evt (fun k => laws_szInt64SS.f k cs a) (if a - cs.length < 0 then -1 else szs (a - cs.length) cs) := by
  unfold maxLen at hl hc
  unfold laws_szInt64SS.f
  rw [w64 (by omega) (by omega)]
  by_cases h : a - (cs.length : Int) < 0
  · rw [if_pos h]
    exact Evt.ite_pos h Evt.pure
  · rw [if_neg h]
    refine Evt.ite_neg h ?_
    refine Evt.upS (g := fun k i t => laws_szInt64SS.l0 k cs t (i : Int)) (R := fun i t => szs t (cs.drop i)) (P := fun _ t => 0 ≤ t ∧ t ≤ 1000000000) (n := cs.length) ?_ ?_ 0 _ (Nat.zero_le _) ⟨by omega, by omega⟩
    · rintro t _
      refine Evt.step (fun k => rfl) ?_
      simp only [laws_szInt64SS.l0]
      rw [List.drop_length]
      exact Evt.ite_neg (by omega) Evt.pure
    · rintro i t hi ⟨ht0, ht1⟩ ih
      have hci := hc _ (getD_mem cs i [] hi)
      refine Evt.step (fun k => rfl) ?_
      have e : laws_szInt64S.f (cs.getD i []) t = some (if t - (cs.getD i []).length < 0 then -1 else t - (cs.getD i []).length) := by
        unfold laws_szInt64S.f
        rw [w64 (by omega) (by omega)]
        split <;> rfl
      simp only [laws_szInt64SS.l0, rdL1, e, Option.bind_some]
      refine Evt.ite_pos (by omega) (Evt.ite_pos (by omega) ?_)
      rw [wrap_succ hi (by omega), dropD cs i [] hi]
      unfold szs
      by_cases h2 : t - ((cs.getD i []).length : Int) < 0
      · rw [if_pos h2, if_pos h2]
        exact Evt.ite_pos (by omega) Evt.pure
      · rw [if_neg h2, if_neg h2]
        exact Evt.ite_neg h2 (ih _ ⟨by omega, by omega⟩)
theorem setTake {α : Type} (l acc : List α) (i : Nat) (hi : i < l.length) (hl : acc.length = l.length) (h : acc.take i = l.take i) : (acc.set i l[i]).take (i + 1) = l.take (i + 1) := by
  apply List.ext_getElem?
  intro j
  have h3 := congrArg (fun z => z[j]?) h
  simp only [List.getElem?_take] at h3 ⊢
  by_cases hj : j < i
  · rw [if_pos (by omega)] at h3 ⊢
    rw [if_pos (by omega)] at h3 ⊢
    rw [List.getElem?_set_ne (by omega)]
    exact h3
  · by_cases hj2 : j = i
    · subst hj2
      rw [if_pos (by omega), if_pos (by omega), List.getElem?_set_self (by omega), List.getElem?_eq_getElem hi]
    · rw [if_neg (by omega), if_neg (by omega)]
theorem toInt64S_eq (l : List Int) (hl : l.length ≤ 1000000000) : Evt (fun k => laws_toInt64S.f k l) l := by
  unfold laws_toInt64S.f
  refine Evt.ite_pos (by omega) (Evt.ite_pos (by omega) ?_)
  refine Evt.upS (g := fun k i acc => laws_toInt64S.l0 k l acc (i : Int)) (R := fun _ _ => l) (P := fun i acc => acc.length = l.length ∧ acc.take i = l.take i) (n := l.length) ?_ ?_ 0 _ (Nat.zero_le _) ⟨by simp, by simp⟩
  · rintro acc ⟨h1, h2⟩
    refine Evt.step (fun k => rfl) ?_
    simp only [laws_toInt64S.l0]
    refine Evt.ite_neg (by omega) ?_
    rw [List.take_of_length_le (by omega), List.take_length] at h2
    rw [h2]
    exact Evt.pure
  · rintro i acc hi ⟨h1, h2⟩ ih
    refine Evt.step (fun k => rfl) ?_
    simp only [laws_toInt64S.l0, rdN]
    refine Evt.ite_pos (by omega) (Evt.ite_pos (by omega) (Evt.ite_pos (by omega) ?_))
    rw [wrap_succ hi (by omega), Int.toNat_natCast, gd l i 0 hi]
    exact ih _ ⟨by simpa using h1, setTake l acc i hi h1 h2⟩
theorem toInt64SS_eq (l : List (List Int)) (h : LL l) : Evt (fun k => laws_toInt64SS.f k l) l := by
  have hl := h.1
  unfold laws_toInt64SS.f
  refine Evt.ite_pos (by omega) (Evt.ite_pos (by omega) ?_)
  refine Evt.upS (g := fun k i acc => laws_toInt64SS.l0 k l acc (i : Int)) (R := fun _ _ => l) (P := fun i acc => acc.length = l.length ∧ acc.take i = l.take i) (n := l.length) ?_ ?_ 0 _ (Nat.zero_le _) ⟨by simp, by simp⟩
  · rintro acc ⟨h1, h2⟩
    refine Evt.step (fun k => rfl) ?_
    simp only [laws_toInt64SS.l0]
    refine Evt.ite_neg (by omega) ?_
    rw [List.take_of_length_le (by omega), List.take_length] at h2
    rw [h2]
    exact Evt.pure
  · rintro i acc hi ⟨h1, h2⟩ ih
    refine Evt.step (fun k => rfl) ?_
    simp only [laws_toInt64SS.l0, rdL1]
    refine Evt.ite_pos (by omega) (Evt.ite_pos (by omega) ?_)
    refine (toInt64S_eq _ (h.2 _ (getD_mem l i [] hi))).bind (Evt.ite_pos (by omega) ?_)
    rw [wrap_succ hi (by omega), Int.toNat_natCast, gd l i [] hi]
    exact ih _ ⟨by simpa using h1, setTake l acc i hi h1 h2⟩
theorem eqInt64S_refl (l : List Int) (hl : l.length ≤ 1000000000) : Evt (fun k => laws_eqInt64S.f k l l) true := by
  unfold laws_eqInt64S.f
  refine Evt.ite_pos rfl ?_
  refine Evt.up (g := fun k i => laws_eqInt64S.l0 k l l (i : Int)) (R := fun _ => true) (n := l.length) ?_ ?_ 0 (Nat.zero_le _)
  · refine Evt.step (fun k => rfl) ?_
    simp only [laws_eqInt64S.l0]
    exact Evt.ite_neg (by omega) Evt.pure
  · intro i hi ih
    refine Evt.step (fun k => rfl) ?_
    simp only [laws_eqInt64S.l0]
    refine Evt.ite_pos (by omega) (Evt.ite_pos (by omega) (Evt.ite_pos (by omega) (Evt.ite_pos (by simp) ?_)))
    rw [wrap_succ hi (by omega)]
    exact ih
theorem eqInt64SS_refl (l : List (List Int)) (h : LL l) : Evt (fun k => laws_eqInt64SS.f k l l) true := by
  have hl := h.1
  unfold laws_eqInt64SS.f
  refine Evt.ite_pos rfl ?_
  refine Evt.up (g := fun k i => laws_eqInt64SS.l0 k l l (i : Int)) (R := fun _ => true) (n := l.length) ?_ ?_ 0 (Nat.zero_le _)
  · refine Evt.step (fun k => rfl) ?_
    simp only [laws_eqInt64SS.l0]
    exact Evt.ite_neg (by omega) Evt.pure
  · intro i hi ih
    refine Evt.step (fun k => rfl) ?_
    simp only [laws_eqInt64SS.l0, rdL1]
    refine Evt.ite_pos (by omega) (Evt.ite_pos (by omega) (Evt.ite_pos (by omega) ?_))
    refine (eqInt64S_refl _ (h.2 _ (getD_mem l i [] hi))).bind (Evt.ite_pos rfl ?_)
    rw [wrap_succ hi (by omega)]
    exact ih
theorem toFormula_eq (v : Int) (l : List (List Int)) (h : LL l) : Evt (fun k => laws_toFormula.f k v l) (v, l) := by
  unfold laws_toFormula.f
  exact (toInt64SS_eq l h).bind Evt.pure
theorem eqFormula_refl (v : Int) (l : List (List Int)) (h : LL l) : Evt (fun k => laws_eqFormula.f k v l v l) true := by
  unfold laws_eqFormula.f
  exact Evt.ite_pos rfl ((eqInt64SS_refl l h).bind (Evt.ite_pos rfl Evt.pure))

end Go.Proofs.Ytabmmhkikemdjaa.Pure
