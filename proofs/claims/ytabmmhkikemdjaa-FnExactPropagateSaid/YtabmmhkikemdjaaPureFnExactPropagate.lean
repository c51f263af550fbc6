/- The pure side of the law FnExactPropagate: parts of this session, put into one text by merge.py. -/
import Derived.Laws.Bits64b
import Derived.Laws.BitsLemmas
import Derived.Test.YtabmmhkikemdjaaQ0
import Derived.Test.YtabmmhkikemdjaaOpn
import Derived.Test.YtabmmhkikemdjaaQ1
import Derived.Test.YtabmmhkikemdjaaQ7
import Derived.Test.YtabmmhkikemdjaaQ2
import Derived.Test.YtabmmhkikemdjaaQ3
import Derived.Test.YtabmmhkikemdjaaQ8
import Derived.Test.YtabmmhkikemdjaaQGimplIsFormula
import Derived.Test.YtabmmhkikemdjaaQ10
import Derived.Test.YtabmmhkikemdjaaQ4
import Derived.Test.YtabmmhkikemdjaaQ12
import Derived.Test.YtabmmhkikemdjaaQ13
import Derived.Test.YtabmmhkikemdjaaQGimplisAssignment
import Derived.Test.YtabmmhkikemdjaaQ14
import Derived.Test.YtabmmhkikemdjaaQGslicesCloneint64int64
import Derived.Test.YtabmmhkikemdjaaQ15
import Derived.Test.YtabmmhkikemdjaaQ16
import Derived.Test.YtabmmhkikemdjaaQ17
import Derived.Test.YtabmmhkikemdjaaQGlawsmarkInt64SS
import Derived.Test.YtabmmhkikemdjaaQGlawsmarkFormula
import Derived.Test.YtabmmhkikemdjaaQ18
import Derived.Test.YtabmmhkikemdjaaQGlawsFnExactPropagate
import Derived.Test.YtabmmhkikemdjaaUFnExactPropagate
section
namespace Go.Proofs.Ytabmmhkikemdjaa.Pure
open Go.RowKit
set_option linter.unusedVariables false
set_option linter.unusedSimpArgs false
def Evt {α : Type} (g : Nat → Option α) (r : α) : Prop := ∃ K, ∀ k, K ≤ k → g k = some r
theorem Evt.out {α : Type} {g : Nat → Option α} {r : α} (h : Evt g r) : ∃ k, g k = some r := by
  obtain ⟨K, h⟩ := h
  exact ⟨K, h K (Nat.le_refl _)⟩
theorem Evt.pure {α : Type} {r : α} : Evt (fun _ => some r) r := ⟨0, fun _ _ => rfl⟩
theorem Evt.const {α : Type} {o : Option α} {r : α} (h : o = some r) : Evt (fun _ => o) r := ⟨0, fun _ _ => h⟩
theorem Evt.of_eq {α : Type} {g g' : Nat → Option α} {r : α} (e : ∀ k, g' k = g k) (h : Evt g r) : Evt g' r := by
  obtain ⟨K, h⟩ := h
  exact ⟨K, fun k hk => (e k).trans (h k hk)⟩
theorem Evt.bind {α β : Type} {g : Nat → Option α} {f : Nat → α → Option β} {a : α} {r : β} (h : Evt g a) (h2 : Evt (fun k => f k a) r) : Evt (fun k => (g k).bind (f k)) r := by
  obtain ⟨K, h⟩ := h
  obtain ⟨K2, h2⟩ := h2
  refine ⟨K + K2, fun k hk => ?_⟩
  show (g k).bind (f k) = some r
  rw [h k (by omega)]
  exact h2 k (by omega)
theorem Evt.step {α : Type} {g h : Nat → Option α} {r : α} (e : ∀ k, g (k + 1) = h k) (hh : Evt h r) : Evt g r := by
  obtain ⟨K, hh⟩ := hh
  refine ⟨K + 1, fun k hk => ?_⟩
  obtain ⟨m, rfl⟩ : ∃ m, k = m + 1 := ⟨k - 1, by omega⟩
  rw [e m]
  exact hh m (by omega)
theorem Evt.ite_pos {α : Type} {c : Prop} [Decidable c] {g h : Nat → Option α} {r : α} (hc : c) (hg : Evt g r) : Evt (fun k => if c then g k else h k) r := Evt.of_eq (fun k => if_pos hc) hg
theorem Evt.ite_neg {α : Type} {c : Prop} [Decidable c] {g h : Nat → Option α} {r : α} (hc : ¬ c) (hg : Evt h r) : Evt (fun k => if c then g k else h k) r := Evt.of_eq (fun k => if_neg hc) hg
theorem Evt.up {α : Type} {g : Nat → Nat → Option α} {R : Nat → α} {n : Nat} (hend : Evt (fun k => g k n) (R n)) (hstep : ∀ i, i < n → Evt (fun k => g k (i + 1)) (R (i + 1)) → Evt (fun k => g k i) (R i)) : ∀ i, i ≤ n → Evt (fun k => g k i) (R i) := by
  intro i hi
  obtain ⟨d, hd⟩ : ∃ d, n = i + d := ⟨n - i, by omega⟩
  induction d generalizing i with
  | zero => have e : i = n := by omega
            rw [e]; exact hend
  | succ d ih => exact hstep i (by omega) (ih (i + 1) (by omega) (by omega))
theorem Evt.upS {α σ : Type} {g : Nat → Nat → σ → Option α} {R : Nat → σ → α} {P : Nat → σ → Prop} {n : Nat} (hend : ∀ s, P n s → Evt (fun k => g k n s) (R n s))
    (hstep : ∀ i s, i < n → P i s → (∀ s', P (i + 1) s' → Evt (fun k => g k (i + 1) s') (R (i + 1) s')) → Evt (fun k => g k i s) (R i s)) : ∀ i s, i ≤ n → P i s → Evt (fun k => g k i s) (R i s) := by
  intro i s hi hp
  obtain ⟨d, hd⟩ : ∃ d, n = i + d := ⟨n - i, by omega⟩
  induction d generalizing i s with
  | zero => have e : i = n := by omega
            rw [e] at hp ⊢; exact hend s hp
  | succ d ih => exact hstep i s (by omega) hp (fun s' hp' => ih (i + 1) s' (by omega) hp' (by omega))
def Both {α : Type} (g h : Nat → Option α) : Prop := ∃ r, Evt g r ∧ Evt h r
theorem Both.pure {α : Type} {r : α} : Both (fun _ => some r) (fun _ => some r) := ⟨r, Evt.pure, Evt.pure⟩
theorem wrap_succ {i n : Nat} (h : i < n) (hn : n ≤ 9223372036854775807) : wrap64 ((i : Int) + 1) = ((i + 1 : Nat) : Int) := by
  unfold wrap64
  omega
end Go.Proofs.Ytabmmhkikemdjaa.Pure
end
section
namespace Go.Proofs.Ytabmmhkikemdjaa.Pure
open Go.RowKit Go.Proofs.Ytabmmhkikemdjaa Go.Proofs.Ytabmmhkikemdjaa.Q Go.Proofs.YtabmmhkikemdjaaW.PrintWords
set_option linter.unusedVariables false
set_option linter.unusedSimpArgs false
theorem w64 {n : Int} (h0 : -9223372036854775808 ≤ n) (h1 : n ≤ 9223372036854775807) : wrap64 n = n := by
  unfold wrap64
  omega
theorem in_eq (a b c : Int) : spec_l01In.f a b c = some (decide (b ≤ a ∧ a ≤ c)) := by
  unfold spec_l01In.f
  by_cases h : a ≥ b
  · rw [if_pos h]; simp; intro _; exact h
  · rw [if_neg h]; simp; intro h2; omega
theorem within_eq (a b c : Int) : impl_within.f a b c = some (decide (b ≤ a ∧ a ≤ c)) := in_eq a b c
end Go.Proofs.Ytabmmhkikemdjaa.Pure
end
section
namespace Go.Proofs.Ytabmmhkikemdjaa.Pure
open Go.RowKit Go.Proofs.Ytabmmhkikemdjaa Go.Proofs.Ytabmmhkikemdjaa.Q Go.Proofs.YtabmmhkikemdjaaW.PrintWords
set_option linter.unusedVariables false
set_option linter.unusedSimpArgs false
theorem gd {α : Type} (l : List α) (i : Nat) (z : α) (h : i < l.length) : l.getD i z = l[i] := by simp [List.getD_eq_getElem?_getD, List.getElem?_eq_getElem h]
theorem dropD {α : Type} (l : List α) (i : Nat) (z : α) (h : i < l.length) : l.drop i = l.getD i z :: l.drop (i + 1) := by
  rw [List.drop_eq_getElem_cons h, gd l i z h]
theorem rdN (l : List Int) (i : Nat) : rd l (i : Int) = l.getD i 0 := by simp [rd]
theorem rdL1 (l : List (List Int)) (i : Nat) : rd_L1 l (i : Int) = l.getD i [] := by simp [rd_L1]
theorem getD_mem {α : Type} (l : List α) (i : Nat) (z : α) (h : i < l.length) : l.getD i z ∈ l := by rw [gd l i z h]; exact List.getElem_mem h
def ab (a : Int) : Int := mx a (wrap64 (-a))
theorem ab_eq {a : Int} (h0 : -1000000 ≤ a) (h1 : a ≤ 1000000) : ab a = if a < 0 then -a else a := by
  unfold ab mx
  rw [w64 (by omega) (by omega)]
  by_cases h : a < 0
  · rw [if_pos (by omega), if_pos h]
  · rw [if_neg h]
    by_cases h2 : a < -a
    · omega
    · rw [if_neg h2]
theorem variableOf_eq (a : Int) : impl_variableOf.f a = some (ab a) := rfl
theorem l01Abs_eq (a : Int) : spec_l01Abs.f a = some (ab a) := rfl
def cl (v : Int) : Int → List Int → Bool
  | _, [] => true
  | last, n :: r => if -v ≤ n ∧ n ≤ v then (if ab n ≤ last then false else cl v (ab n) r) else false
theorem isClause_eq (l : List Int) (v : Int) (hv0 : 0 ≤ v) (hv : v ≤ 400) (hl : l.length ≤ 1000000000) : Evt (fun k => impl_isClause.f k l v) (cl v 0 l) := by
  unfold impl_isClause.f
  refine Evt.upS (g := fun k i s => impl_isClause.l0 k v s l (l.length : Int) (i : Int)) (R := fun i s => cl v s (l.drop i)) (P := fun _ _ => True) (n := l.length) ?_ ?_ 0 0 (Nat.zero_le _) trivial
  · rintro s _
    refine Evt.step (fun k => rfl) ?_
    simp only [impl_isClause.l0]
    rw [List.drop_length]
    exact Evt.ite_neg (by omega) Evt.pure
  · rintro i s hi _ ih
    refine Evt.step (fun k => rfl) ?_
    have ih' := ih (ab (l.getD i 0)) trivial
    simp only [impl_isClause.l0, rdN, within_eq, variableOf_eq, Option.bind_some]
    refine Evt.ite_pos (by omega) (Evt.ite_pos (by omega) (Evt.ite_pos (by omega) ?_))
    rw [wrap_succ hi (by omega), dropD l i 0 hi, w64 (n := -v) (by omega) (by omega)]
    unfold cl
    by_cases c : -v ≤ l.getD i 0 ∧ l.getD i 0 ≤ v
    · rw [if_pos c]
      refine Evt.ite_pos (by simpa using c) ?_
      by_cases c2 : ab (l.getD i 0) ≤ s
      · rw [if_pos c2]
        exact Evt.ite_pos c2 Evt.pure
      · rw [if_neg c2]
        exact Evt.ite_neg c2 ih'
    · rw [if_neg c]
      exact Evt.ite_neg (by simpa using c) Evt.pure
theorem l20Clause_eq (l : List Int) (v : Int) (hv0 : 0 ≤ v) (hv : v ≤ 400) (hl : l.length ≤ 1000000000) : Evt (fun k => spec_l20Clause.f k l v) (cl v 0 l) := by
  unfold spec_l20Clause.f
  refine Evt.upS (g := fun k i _ => spec_l20Clause.l0 k l v (i : Int)) (R := fun i s => cl v s (l.drop i)) (P := fun i s => 0 ≤ s ∧ (i = 0 → s = 0) ∧ ∀ j, i = j + 1 → s = ab (l.getD j 0)) (n := l.length) ?_ ?_ 0 0 (Nat.zero_le _) ⟨by omega, fun _ => rfl, fun j hj => by omega⟩
  · rintro s _
    refine Evt.step (fun k => rfl) ?_
    simp only [spec_l20Clause.l0]
    rw [List.drop_length]
    exact Evt.ite_neg (by omega) Evt.pure
  · rintro i s hi ⟨hs0, hs1, hs2⟩ ih
    refine Evt.step (fun k => rfl) ?_
    simp only [spec_l20Clause.l0, rdN, in_eq, l01Abs_eq, Option.bind_some]
    refine Evt.ite_pos (by omega) (Evt.ite_pos (by omega) ?_)
    rw [wrap_succ hi (by omega), dropD l i 0 hi, w64 (n := -v) (by omega) (by omega)]
    unfold cl
    generalize hn : l.getD i 0 = n at ih ⊢
    by_cases c : -v ≤ n ∧ n ≤ v
    · have hab := ab_eq (a := n) (by omega) (by omega)
      have ha0 : 0 ≤ ab n := by rw [hab]; split <;> omega
      have hz : ab n ≤ 0 ↔ n = 0 := by rw [hab]; constructor <;> intro h <;> (first | (split at h <;> omega) | (subst h; simp))
      have ih' := ih (ab n) ⟨ha0, fun h => by omega, fun j hj => by obtain rfl : i = j := by omega
                                                                    rw [hn]⟩
      rw [if_pos c]
      by_cases c1 : n = 0
      · have c2 : ab n ≤ s := by have := hz.2 c1; omega
        rw [if_pos c2]
        exact Evt.ite_pos c1 Evt.pure
      · refine Evt.ite_neg c1 (Evt.ite_pos (by simpa using c) ?_)
        by_cases c0 : i = 0
        · have e := hs1 c0
          rw [if_neg (by rw [e]; exact fun h => c1 (hz.1 h))]
          exact Evt.ite_neg (by omega) ih'
        · obtain ⟨j, rfl⟩ : ∃ j, i = j + 1 := ⟨i - 1, by omega⟩
          have e := hs2 j rfl
          refine Evt.ite_pos (by omega) ?_
          have ej : wrap64 (((j + 1 : Nat) : Int) - 1) = (j : Int) := by rw [w64 (by omega) (by omega)]; omega
          rw [ej, rdN, ← e]
          refine Evt.ite_pos (by omega) (Evt.ite_pos (by omega) ?_)
          by_cases c2 : ab n ≤ s
          · rw [if_pos c2]
            exact Evt.ite_pos c2 Evt.pure
          · rw [if_neg c2]
            exact Evt.ite_neg c2 ih'
    · rw [if_neg c]
      by_cases c1 : n = 0
      · exact absurd ⟨by omega, by omega⟩ c
      · exact Evt.ite_neg c1 (Evt.ite_neg (by simpa using c) Evt.pure)
def fm (v : Int) (cs : List (List Int)) : Bool := decide (0 ≤ v ∧ v ≤ 400) && (!decide ((cs.length : Int) > 20000) && cs.all (cl v 0))
theorem fm_iff {v : Int} {cs : List (List Int)} : fm v cs = true ↔ (0 ≤ v ∧ v ≤ 400) ∧ cs.length ≤ 20000 ∧ ∀ c ∈ cs, cl v 0 c = true := by
  unfold fm
  simp [List.all_eq_true]
  omega
def LL (cs : List (List Int)) : Prop := cs.length ≤ 1000000000 ∧ ∀ c ∈ cs, c.length ≤ 1000000000
theorem all_eq (v : Int) (hv0 : 0 ≤ v) (hv : v ≤ 400) : ∀ (cs : List (List Int)), (∀ c ∈ cs, c.length ≤ 1000000000) → Evt (fun k => impl_IsFormula.all k v cs) (cs.all (cl v 0))
  | [], _ => Evt.pure
  | c :: r, h => by
    have ih := all_eq v hv0 hv r (fun d hd => h d (List.mem_cons_of_mem _ hd))
    refine Evt.of_eq (fun k => rfl) ((isClause_eq c v hv0 hv (h c List.mem_cons_self)).bind ?_)
    rw [List.all_cons]
    cases e : cl v 0 c
    · exact Evt.ite_neg (by simp) Evt.pure
    · refine Evt.ite_pos rfl ?_
      rw [Bool.true_and]
      exact ih
theorem IsFormula_impl (v : Int) (cs : List (List Int)) (h : LL cs) : Evt (fun k => impl_IsFormula.f k v cs) (fm v cs) := by
  unfold impl_IsFormula.f fm
  simp only [within_eq, Option.bind_some]
  by_cases c : 0 ≤ v ∧ v ≤ 400
  · refine Evt.ite_pos (by simpa using c) ?_
    by_cases c2 : (cs.length : Int) > 20000
    · simp only [c2, decide_true, Bool.not_true, Bool.false_and, Bool.and_false]
      exact Evt.ite_pos trivial Evt.pure
    · simp only [c, c2, decide_true, decide_false, Bool.not_false, Bool.true_and, and_self]
      exact Evt.ite_neg (by simp) (all_eq v c.1 c.2 cs h.2)
  · simp only [c, decide_false, Bool.false_and]
    exact Evt.ite_neg (by simp) Evt.pure
theorem IsFormula_spec (v : Int) (cs : List (List Int)) (h : LL cs) : Evt (fun k => spec_IsFormula.f k v cs) (fm v cs) := by
  unfold spec_IsFormula.f fm
  simp only [in_eq, Option.bind_some]
  have hl := h.1
  by_cases c : 0 ≤ v ∧ v ≤ 400
  · refine Evt.ite_pos (by simpa using c) (Evt.step (fun k => rfl) ?_)
    simp only [spec_IsFormula.j0]
    by_cases c2 : (cs.length : Int) > 20000
    · simp only [c2, decide_true, Bool.not_true, Bool.false_and, Bool.and_false]
      exact Evt.ite_pos (by simp) Evt.pure
    · simp only [c, c2, decide_true, decide_false, Bool.not_false, Bool.true_and, and_self]
      refine Evt.ite_neg (by simp) ?_
      refine Evt.up (g := fun k i => spec_IsFormula.l0 k (i : Int) v cs) (R := fun i => (cs.drop i).all (cl v 0)) (n := cs.length) ?_ ?_ 0 (Nat.zero_le _)
      · refine Evt.step (fun k => rfl) ?_
        simp only [spec_IsFormula.l0]
        rw [List.drop_length]
        exact Evt.ite_neg (by omega) Evt.pure
      · intro i hi ih
        refine Evt.step (fun k => rfl) ?_
        simp only [spec_IsFormula.l0, rdL1]
        refine Evt.ite_pos (by omega) (Evt.ite_pos (by omega) ?_)
        refine (l20Clause_eq (cs.getD i []) v c.1 c.2 (h.2 _ (getD_mem cs i [] hi))).bind ?_
        rw [wrap_succ hi (by omega), dropD cs i [] hi, List.all_cons]
        cases e : cl v 0 (cs.getD i [])
        · exact Evt.ite_neg (by simp) Evt.pure
        · refine Evt.ite_pos rfl ?_
          rw [Bool.true_and]
          exact ih
  · simp only [c, decide_false, Bool.false_and]
    refine Evt.ite_neg (by simp) (Evt.step (fun k => rfl) ?_)
    simp only [spec_IsFormula.j0]
    exact Evt.ite_pos (by simp) Evt.pure
def szs : Int → List (List Int) → Int
  | t, [] => t
  | t, c :: r => if t - c.length < 0 then -1 else szs (t - c.length) r
theorem szs_le : ∀ (l : List (List Int)) (t : Int), 0 ≤ t → 0 ≤ szs t l → ∀ c ∈ l, (c.length : Int) ≤ t
  | [], _, _, _ => fun _ h => by cases h
  | c :: r, t, h0, h => by
    unfold szs at h
    by_cases h1 : t - c.length < 0
    · rw [if_pos h1] at h; omega
    · rw [if_neg h1] at h
      have ih := szs_le r _ (by omega) h
      intro d hd
      rcases List.mem_cons.1 hd with rfl | hd
      · omega
      · have := ih d hd; omega
theorem szInt64SS_eq (cs : List (List Int)) (a : Int) (ha0 : 0 ≤ a) (ha : a ≤ 1000000000) (hl : cs.length ≤ maxLen) (hc : ∀ c ∈ cs, c.length ≤ maxLen) : Evt (fun k => laws_szInt64SS.f k cs a) (if a - cs.length < 0 then -1 else szs (a - cs.length) cs) := by
  unfold maxLen at hl hc
  unfold laws_szInt64SS.f
  rw [w64 (by omega) (by omega)]
  by_cases h : a - (cs.length : Int) < 0
  · rw [if_pos h]
    exact Evt.ite_pos h Evt.pure
  · rw [if_neg h]
    refine Evt.ite_neg h ?_
    refine Evt.upS (g := fun k i t => laws_szInt64SS.l0 k cs t (i : Int)) (R := fun i t => szs t (cs.drop i)) (P := fun _ t => 0 ≤ t ∧ t ≤ 1000000000) (n := cs.length) ?_ ?_ 0 _ (Nat.zero_le _) ⟨by omega, by omega⟩
    · rintro t _
      refine Evt.step (fun k => rfl) ?_
      simp only [laws_szInt64SS.l0]
      rw [List.drop_length]
      exact Evt.ite_neg (by omega) Evt.pure
    · rintro i t hi ⟨ht0, ht1⟩ ih
      have hci := hc _ (getD_mem cs i [] hi)
      refine Evt.step (fun k => rfl) ?_
      have e : laws_szInt64S.f (cs.getD i []) t = some (if t - (cs.getD i []).length < 0 then -1 else t - (cs.getD i []).length) := by
        unfold laws_szInt64S.f
        rw [w64 (by omega) (by omega)]
        split <;> rfl
      simp only [laws_szInt64SS.l0, rdL1, e, Option.bind_some]
      refine Evt.ite_pos (by omega) (Evt.ite_pos (by omega) ?_)
      rw [wrap_succ hi (by omega), dropD cs i [] hi]
      unfold szs
      by_cases h2 : t - ((cs.getD i []).length : Int) < 0
      · rw [if_pos h2, if_pos h2]
        exact Evt.ite_pos (by omega) Evt.pure
      · rw [if_neg h2, if_neg h2]
        exact Evt.ite_neg h2 (ih _ ⟨by omega, by omega⟩)
theorem setTake {α : Type} (l acc : List α) (i : Nat) (hi : i < l.length) (hl : acc.length = l.length) (h : acc.take i = l.take i) : (acc.set i l[i]).take (i + 1) = l.take (i + 1) := by
  apply List.ext_getElem?
  intro j
  have h3 := congrArg (fun z => z[j]?) h
  simp only [List.getElem?_take] at h3 ⊢
  by_cases hj : j < i
  · rw [if_pos (by omega)] at h3 ⊢
    rw [if_pos (by omega)] at h3 ⊢
    rw [List.getElem?_set_ne (by omega)]
    exact h3
  · by_cases hj2 : j = i
    · subst hj2
      rw [if_pos (by omega), if_pos (by omega), List.getElem?_set_self (by omega), List.getElem?_eq_getElem hi]
    · rw [if_neg (by omega), if_neg (by omega)]
theorem toInt64S_eq (l : List Int) (hl : l.length ≤ 1000000000) : Evt (fun k => laws_toInt64S.f k l) l := by
  unfold laws_toInt64S.f
  refine Evt.ite_pos (by omega) (Evt.ite_pos (by omega) ?_)
  refine Evt.upS (g := fun k i acc => laws_toInt64S.l0 k l acc (i : Int)) (R := fun _ _ => l) (P := fun i acc => acc.length = l.length ∧ acc.take i = l.take i) (n := l.length) ?_ ?_ 0 _ (Nat.zero_le _) ⟨by simp, by simp⟩
  · rintro acc ⟨h1, h2⟩
    refine Evt.step (fun k => rfl) ?_
    simp only [laws_toInt64S.l0]
    refine Evt.ite_neg (by omega) ?_
    rw [List.take_of_length_le (by omega), List.take_length] at h2
    rw [h2]
    exact Evt.pure
  · rintro i acc hi ⟨h1, h2⟩ ih
    refine Evt.step (fun k => rfl) ?_
    simp only [laws_toInt64S.l0, rdN]
    refine Evt.ite_pos (by omega) (Evt.ite_pos (by omega) (Evt.ite_pos (by omega) ?_))
    rw [wrap_succ hi (by omega), Int.toNat_natCast, gd l i 0 hi]
    exact ih _ ⟨by simpa using h1, setTake l acc i hi h1 h2⟩
theorem toInt64SS_eq (l : List (List Int)) (h : LL l) : Evt (fun k => laws_toInt64SS.f k l) l := by
  have hl := h.1
  unfold laws_toInt64SS.f
  refine Evt.ite_pos (by omega) (Evt.ite_pos (by omega) ?_)
  refine Evt.upS (g := fun k i acc => laws_toInt64SS.l0 k l acc (i : Int)) (R := fun _ _ => l) (P := fun i acc => acc.length = l.length ∧ acc.take i = l.take i) (n := l.length) ?_ ?_ 0 _ (Nat.zero_le _) ⟨by simp, by simp⟩
  · rintro acc ⟨h1, h2⟩
    refine Evt.step (fun k => rfl) ?_
    simp only [laws_toInt64SS.l0]
    refine Evt.ite_neg (by omega) ?_
    rw [List.take_of_length_le (by omega), List.take_length] at h2
    rw [h2]
    exact Evt.pure
  · rintro i acc hi ⟨h1, h2⟩ ih
    refine Evt.step (fun k => rfl) ?_
    simp only [laws_toInt64SS.l0, rdL1]
    refine Evt.ite_pos (by omega) (Evt.ite_pos (by omega) ?_)
    refine (toInt64S_eq _ (h.2 _ (getD_mem l i [] hi))).bind (Evt.ite_pos (by omega) ?_)
    rw [wrap_succ hi (by omega), Int.toNat_natCast, gd l i [] hi]
    exact ih _ ⟨by simpa using h1, setTake l acc i hi h1 h2⟩
theorem eqInt64S_refl (l : List Int) (hl : l.length ≤ 1000000000) : Evt (fun k => laws_eqInt64S.f k l l) true := by
  unfold laws_eqInt64S.f
  refine Evt.ite_pos rfl ?_
  refine Evt.up (g := fun k i => laws_eqInt64S.l0 k l l (i : Int)) (R := fun _ => true) (n := l.length) ?_ ?_ 0 (Nat.zero_le _)
  · refine Evt.step (fun k => rfl) ?_
    simp only [laws_eqInt64S.l0]
    exact Evt.ite_neg (by omega) Evt.pure
  · intro i hi ih
    refine Evt.step (fun k => rfl) ?_
    simp only [laws_eqInt64S.l0]
    refine Evt.ite_pos (by omega) (Evt.ite_pos (by omega) (Evt.ite_pos (by omega) (Evt.ite_pos (by simp) ?_)))
    rw [wrap_succ hi (by omega)]
    exact ih
theorem eqInt64SS_refl (l : List (List Int)) (h : LL l) : Evt (fun k => laws_eqInt64SS.f k l l) true := by
  have hl := h.1
  unfold laws_eqInt64SS.f
  refine Evt.ite_pos rfl ?_
  refine Evt.up (g := fun k i => laws_eqInt64SS.l0 k l l (i : Int)) (R := fun _ => true) (n := l.length) ?_ ?_ 0 (Nat.zero_le _)
  · refine Evt.step (fun k => rfl) ?_
    simp only [laws_eqInt64SS.l0]
    exact Evt.ite_neg (by omega) Evt.pure
  · intro i hi ih
    refine Evt.step (fun k => rfl) ?_
    simp only [laws_eqInt64SS.l0, rdL1]
    refine Evt.ite_pos (by omega) (Evt.ite_pos (by omega) (Evt.ite_pos (by omega) ?_))
    refine (eqInt64S_refl _ (h.2 _ (getD_mem l i [] hi))).bind (Evt.ite_pos rfl ?_)
    rw [wrap_succ hi (by omega)]
    exact ih
theorem toFormula_eq (v : Int) (l : List (List Int)) (h : LL l) : Evt (fun k => laws_toFormula.f k v l) (v, l) := by
  unfold laws_toFormula.f
  exact (toInt64SS_eq l h).bind Evt.pure
theorem eqFormula_refl (v : Int) (l : List (List Int)) (h : LL l) : Evt (fun k => laws_eqFormula.f k v l v l) true := by
  unfold laws_eqFormula.f
  exact Evt.ite_pos rfl ((eqInt64SS_refl l h).bind (Evt.ite_pos rfl Evt.pure))
end Go.Proofs.Ytabmmhkikemdjaa.Pure
end
section
namespace Go.Proofs.Ytabmmhkikemdjaa.Pure
open Go.RowKit Go.Proofs.Ytabmmhkikemdjaa Go.Proofs.Ytabmmhkikemdjaa.Q Go.Proofs.YtabmmhkikemdjaaW.PrintWords
set_option linter.unusedVariables false
set_option linter.unusedSimpArgs false
def bi (m i : Nat) : Int := if m.testBit i = true then 1 else 0
def lit (m : Nat) (n : Int) : Bool := if n > 0 then m.testBit (n - 1).toNat else !m.testBit (-n - 1).toNat
def sat (m : Nat) (cs : List (List Int)) : Bool := cs.all fun c => c.any (lit m)
def pmS (a : Nat) (n : Int) : Nat := if n > 0 then a ||| 2 ^ (n - 1).toNat else a
def nmS (a : Nat) (n : Int) : Nat := if n > 0 then a else a ||| 2 ^ (-n - 1).toNat
def pm (c : List Int) : Nat := c.foldl pmS 0
def nm (c : List Int) : Nat := c.foldl nmS 0
def Lits (v : Nat) (c : List Int) : Prop := ∀ n ∈ c, n ≠ 0 ∧ -(v : Int) ≤ n ∧ n ≤ v
theorem cl_lits {v : Nat} (hv : v ≤ 400) : ∀ (c : List Int) (s : Int), 0 ≤ s → cl v s c = true → Lits v c
  | [], _, _, _ => fun _ h => by cases h
  | n :: r, s, hs, h => by
    unfold cl at h
    by_cases c : -(v : Int) ≤ n ∧ n ≤ v
    · rw [if_pos c] at h
      have hab := ab_eq (a := n) (by omega) (by omega)
      by_cases c2 : ab n ≤ s
      · rw [if_pos c2] at h; cases h
      · rw [if_neg c2] at h
        intro d hd
        rcases List.mem_cons.1 hd with rfl | hd
        · refine ⟨fun e => c2 ?_, c⟩
          rw [hab, e]; simpa using hs
        · exact cl_lits hv r (ab n) (by rw [hab]; split <;> omega) h d hd
    · rw [if_neg c] at h; cases h
def vals (v m : Nat) : List Int := (List.range v).map (bi m)
end Go.Proofs.Ytabmmhkikemdjaa.Pure
end
section
namespace Go.Proofs.Ytabmmhkikemdjaa.Pure
open Go.RowKit Go.Proofs.Ytabmmhkikemdjaa Go.Proofs.Ytabmmhkikemdjaa.Q Go.Proofs.YtabmmhkikemdjaaW.PrintWords
set_option linter.unusedVariables false
set_option linter.unusedSimpArgs false
def As (v : Nat) (vs : List Int) : Prop := vs.length = v ∧ ∀ x ∈ vs, -1 ≤ x ∧ x ≤ 1
def idx (n : Int) : Nat := n.natAbs - 1
def vl (vs : List Int) (n : Int) : Int := if 0 ≤ vs.getD (idx n) 0 ∧ n < 0 then 1 - vs.getD (idx n) 0 else vs.getD (idx n) 0
def setV (vs : List Int) (n : Int) : List Int := vs.set (idx n) (if n < 0 then 0 else 1)
def Lt (v : Nat) (n : Int) : Prop := n ≠ 0 ∧ -(v : Int) ≤ n ∧ n ≤ v
theorem ab_idx {v : Nat} (hv : v ≤ 400) {n : Int} (h : Lt v n) : wrap64 (ab n - 1) = (idx n : Int) ∧ idx n < v := by
  obtain ⟨h0, h1, h2⟩ := h
  rw [ab_eq (by omega) (by omega)]
  unfold idx
  by_cases hn : n < 0
  · rw [if_pos hn]
    unfold wrap64
    omega
  · rw [if_neg hn]
    unfold wrap64
    omega
theorem at_as {v : Nat} {vs : List Int} (h : As v vs) {i : Nat} (hi : i < v) : -1 ≤ vs.getD i 0 ∧ vs.getD i 0 ≤ 1 := h.2 _ (getD_mem vs i 0 (by rw [h.1]; exact hi))
theorem state_eq {v : Nat} (hv : v ≤ 400) {vs : List Int} (hA : As v vs) {n : Int} (h : Lt v n) : impl_state.f vs n = some (vl vs n) := by
  obtain ⟨e, hi⟩ := ab_idx hv h
  have hx := at_as hA hi
  unfold impl_state.f
  rw [variableOf_eq]
  simp only [Option.bind_some, e, rdN]
  rw [if_pos (by omega), if_pos (by rw [hA.1]; omega)]
  unfold vl
  by_cases h0 : vs.getD (idx n) 0 ≥ 0
  · rw [if_pos h0]
    by_cases hn : n < 0
    · rw [if_pos hn, if_pos ⟨h0, hn⟩, w64 (by omega) (by omega)]
    · rw [if_neg hn, if_neg (fun c => hn c.2)]
  · rw [if_neg h0, if_neg (fun c => h0 c.1)]
theorem value_eq {v : Nat} (hv : v ≤ 400) {vs : List Int} (hA : As v vs) {n : Int} (h : Lt v n) : spec_l20Value.f vs n = some (vl vs n) := by
  obtain ⟨e, hi⟩ := ab_idx hv h
  have hx := at_as hA hi
  unfold spec_l20Value.f
  rw [l01Abs_eq]
  simp only [Option.bind_some, e, rdN]
  rw [if_pos (by omega), if_pos (by rw [hA.1]; omega)]
  unfold vl
  by_cases h0 : vs.getD (idx n) 0 ≥ 0
  · rw [if_pos h0]
    by_cases hn : n < 0
    · rw [if_pos hn, if_pos ⟨h0, hn⟩, w64 (by omega) (by omega)]
    · rw [if_neg hn, if_neg (fun c => hn c.2)]
  · rw [if_neg h0, if_neg (fun c => h0 c.1)]
theorem assign_eq {v : Nat} (hv : v ≤ 400) {vs : List Int} (hA : As v vs) {n : Int} (h : Lt v n) : impl_assign.f vs n = some (setV vs n) := by
  obtain ⟨e, hi⟩ := ab_idx hv h
  unfold impl_assign.f
  rw [variableOf_eq]
  simp only [Option.bind_some, e]
  rw [if_pos (by omega), if_pos (by rw [hA.1]; omega)]
  unfold setV
  by_cases hn : n < 0
  · have e2 : wrap64 (wrap64 (-n) - 1) = (idx n : Int) := by
      obtain ⟨h0, h1, h2⟩ := h
      unfold idx wrap64
      omega
    rw [if_pos hn, e2, if_pos (by omega), if_pos (by rw [hA.1]; omega), Int.toNat_natCast, List.set_set, if_pos hn]
  · rw [if_neg hn, if_neg hn, Int.toNat_natCast]
theorem own_eq {l : List Int} (h : l.length ≤ 1000000000) : spec_l01Own.f l = some l := by
  unfold spec_l01Own.f
  simp only [Option.bind_some, List.length_nil, List.nil_append]
  rw [if_pos (by omega)]
theorem l21Set_eq {v : Nat} (hv : v ≤ 400) {vs : List Int} (hA : As v vs) {n : Int} (h : Lt v n) : spec_l21Set.f vs n = some (setV vs n) := by
  obtain ⟨e, hi⟩ := ab_idx hv h
  unfold spec_l21Set.f
  rw [own_eq (by rw [hA.1]; omega), l01Abs_eq]
  simp only [Option.bind_some, e]
  rw [if_pos (by omega), if_pos (by rw [hA.1]; omega)]
  unfold setV
  by_cases hn : n < 0
  · rw [if_neg (by omega), if_pos hn, Int.toNat_natCast]
  · have e2 : wrap64 (n - 1) = (idx n : Int) := by
      obtain ⟨h0, h1, h2⟩ := h
      unfold idx wrap64
      omega
    rw [if_pos (by have := h.1; omega), e2, if_pos (by omega), if_pos (by rw [hA.1]; omega), Int.toNat_natCast, List.set_set, if_neg hn]
def weighG (vs : List Int) : List Int → Int → Int → Bool × Int × Int
  | [], o, f => (false, o, f)
  | n :: r, o, f => if vl vs n = 1 then (true, 0, 0) else if vl vs n = -1 then weighG vs r (o + 1) (if o = 0 then n else f) else weighG vs r o f
theorem weigh_eq {v : Nat} (hv : v ≤ 400) {vs : List Int} (hA : As v vs) {c : List Int} (hc : ∀ n ∈ c, Lt v n) (hl : c.length ≤ 1000000000) : Evt (fun k => impl_weigh.f k vs c) (weighG vs c 0 0) := by
  unfold impl_weigh.f
  have key := Evt.upS (g := fun k i (s : Int × Int) => impl_weigh.l0 k vs s.1 s.2 c (c.length : Int) (i : Int)) (R := fun i s => weighG vs (c.drop i) s.1 s.2) (P := fun i s => 0 ≤ s.1 ∧ s.1 ≤ i) (n := c.length) ?_ ?_ 0 (0, 0) (Nat.zero_le _) ⟨by simp, by simp⟩
  · simpa using key
  · rintro ⟨o, f⟩ _
    refine Evt.step (fun k => rfl) ?_
    simp only [impl_weigh.l0]
    rw [List.drop_length]
    exact Evt.ite_neg (by omega) Evt.pure
  · rintro i ⟨o, f⟩ hi ⟨ho0, ho1⟩ ih
    simp only at ho0 ho1
    refine Evt.step (fun k => rfl) ?_
    simp only [impl_weigh.l0, rdN, state_eq hv hA (hc _ (getD_mem c i 0 hi)), Option.bind_some]
    refine Evt.ite_pos (by omega) (Evt.ite_pos (by omega) (Evt.ite_pos (by omega) ?_))
    rw [wrap_succ hi (by omega), dropD c i 0 hi, weighG, w64 (n := o + 1) (by omega) (by omega)]
    by_cases h1 : vl vs (c.getD i 0) = 1
    · rw [if_pos h1]
      exact Evt.ite_pos h1 Evt.pure
    · rw [if_neg h1]
      refine Evt.ite_neg h1 ?_
      by_cases h2 : vl vs (c.getD i 0) = -1
      · rw [if_pos h2]
        refine Evt.ite_pos h2 ?_
        by_cases h0 : o = 0
        · rw [if_pos h0]
          exact Evt.ite_pos h0 (ih (o + 1, c.getD i 0) ⟨by simp only; omega, by simp only; omega⟩)
        · rw [if_neg h0]
          exact Evt.ite_neg h0 (ih (o + 1, f) ⟨by simp only; omega, by simp only; omega⟩)
      · rw [if_neg h2]
        exact Evt.ite_neg h2 (ih (o, f) ⟨ho0, by simp only; omega⟩)
theorem lstate_eq {v : Nat} (hv : v ≤ 400) {vs : List Int} (hA : As v vs) {c : List Int} (hc : ∀ n ∈ c, Lt v n) (hl : c.length ≤ 1000000000) : Evt (fun k => spec_l20State.f k vs c) (weighG vs c 0 0) := by
  unfold spec_l20State.f
  have key := Evt.upS (g := fun k i (s : Int × Int) => spec_l20State.l0 k vs c s.1 s.2 (i : Int)) (R := fun i s => weighG vs (c.drop i) s.1 s.2) (P := fun i s => 0 ≤ s.1 ∧ s.1 ≤ i) (n := c.length) ?_ ?_ 0 (0, 0) (Nat.zero_le _) ⟨by simp, by simp⟩
  · simpa using key
  · rintro ⟨o, f⟩ _
    refine Evt.step (fun k => rfl) ?_
    simp only [spec_l20State.l0]
    rw [List.drop_length]
    exact Evt.ite_neg (by omega) Evt.pure
  · rintro i ⟨o, f⟩ hi ⟨ho0, ho1⟩ ih
    simp only at ho0 ho1
    refine Evt.step (fun k => rfl) ?_
    simp only [spec_l20State.l0, rdN, value_eq hv hA (hc _ (getD_mem c i 0 hi)), Option.bind_some]
    refine Evt.ite_pos (by omega) (Evt.ite_pos (by omega) ?_)
    rw [wrap_succ hi (by omega), dropD c i 0 hi, weighG, w64 (n := o + 1) (by omega) (by omega)]
    by_cases h1 : vl vs (c.getD i 0) = 1
    · rw [if_pos h1]
      exact Evt.ite_pos h1 Evt.pure
    · rw [if_neg h1]
      refine Evt.ite_neg h1 ?_
      by_cases h2 : vl vs (c.getD i 0) = -1
      · rw [if_pos h2]
        refine Evt.ite_pos h2 ?_
        by_cases h0 : o = 0
        · rw [if_pos h0]
          exact Evt.ite_pos h0 (ih (o + 1, c.getD i 0) ⟨by simp only; omega, by simp only; omega⟩)
        · rw [if_neg h0]
          exact Evt.ite_neg h0 (ih (o + 1, f) ⟨by simp only; omega, by simp only; omega⟩)
      · rw [if_neg h2]
        exact Evt.ite_neg h2 (ih (o, f) ⟨ho0, by simp only; omega⟩)
def Gd (v : Nat) (vs : List Int) (n : Int) : Prop := Lt v n ∧ vl vs n = -1
theorem weigh_first {v : Nat} {vs : List Int} : ∀ (c : List Int) (o f : Int), (∀ n ∈ c, Lt v n) → 0 ≤ o → (o = 0 ∨ Gd v vs f) → (weighG vs c o f).1 = false → (weighG vs c o f).2.1 ≠ 0 → Gd v vs (weighG vs c o f).2.2
  | [], o, f, _, _, h, _, h2 => by
    rcases h with h | h
    · exact absurd h h2
    · exact h
  | n :: r, o, f, hc, ho, h, h1, h2 => by
    rw [weighG] at h1 h2 ⊢
    by_cases e1 : vl vs n = 1
    · rw [if_pos e1] at h1
      cases h1
    · rw [if_neg e1] at h1 h2 ⊢
      by_cases e2 : vl vs n = -1
      · rw [if_pos e2] at h1 h2 ⊢
        refine weigh_first r (o + 1) _ (fun m hm => hc m (List.mem_cons_of_mem _ hm)) (by omega) (.inr ?_) h1 h2
        by_cases e0 : o = 0
        · rw [if_pos e0]
          exact ⟨hc n List.mem_cons_self, e2⟩
        · rw [if_neg e0]
          rcases h with h | h
          · exact absurd h e0
          · exact h
      · rw [if_neg e2] at h1 h2 ⊢
        exact weigh_first r o f (fun m hm => hc m (List.mem_cons_of_mem _ hm)) ho h h1 h2
def scanG (vs : List Int) : List (List Int) → Int → Option Int
  | [], u => some u
  | c :: r, u => if (weighG vs c 0 0).1 = false ∧ (weighG vs c 0 0).2.1 = 0 then none else scanG vs r (if (weighG vs c 0 0).1 = false ∧ (weighG vs c 0 0).2.1 = 1 ∧ u = 0 then (weighG vs c 0 0).2.2 else u)
def propG (cs : List (List Int)) : Nat → List Int → List Int × Bool
  | 0, vs => (vs, false)
  | n + 1, vs => match scanG vs cs 0 with
    | none => (vs, true)
    | some u => if u = 0 then (vs, false) else propG cs n (setV vs u)
theorem setV_as {v : Nat} {vs : List Int} (hA : As v vs) (n : Int) : As v (setV vs n) := by
  refine ⟨by unfold setV; rw [List.length_set]; exact hA.1, fun x hx => ?_⟩
  unfold setV at hx
  rcases List.mem_or_eq_of_mem_set hx with h | h
  · exact hA.2 x h
  · subst h
    split <;> omega
theorem gd_at {v : Nat} (hv : v ≤ 400) {vs : List Int} (hA : As v vs) {n : Int} (h : Gd v vs n) : vs.getD (idx n) 0 = -1 ∧ idx n < v := by
  obtain ⟨h1, h2⟩ := h
  have hi := (ab_idx hv h1).2
  have hx := at_as hA hi
  refine ⟨?_, hi⟩
  unfold vl at h2
  split at h2
  · omega
  · exact h2
theorem cnt_lt {v : Nat} (hv : v ≤ 400) {vs : List Int} (hA : As v vs) {n : Int} (h : Gd v vs n) : (setV vs n).count (-1) < vs.count (-1) := by
  obtain ⟨h1, h2⟩ := gd_at hv hA h
  have hl : idx n < vs.length := by rw [hA.1]; exact h2
  rw [gd vs (idx n) 0 hl] at h1
  have hp : 0 < vs.count (-1) := List.count_pos_iff.2 (by rw [← h1]; exact List.getElem_mem hl)
  unfold setV
  rw [List.count_set hl, h1]
  have e : ((if n < 0 then (0 : Int) else 1) == -1) = false := by split <;> rfl
  rw [e]
  simp
  omega
def goOn (cs : List (List Int)) (vs : List Int) (n : Nat) : Option Int → List Int × Bool
  | none => (vs, true)
  | some u => if u = 0 then (vs, false) else propG cs n (setV vs u)
theorem prop_succ (cs : List (List Int)) (n : Nat) (vs : List Int) : propG cs (n + 1) vs = goOn cs vs n (scanG vs cs 0) := by
  rw [propG]
  cases scanG vs cs 0 <;> rfl
theorem prop_spec {v : Nat} (hv : v ≤ 400) {cs : List (List Int)} (hL : LL cs) (hc : ∀ c ∈ cs, ∀ n ∈ c, Lt v n) (V : Int) : ∀ (n : Nat) (vs : List Int), As v vs → vs.count (-1) < n → Evt (fun k => spec_l21Propagate.l0 k vs V cs) (propG cs n vs)
  | 0, _, _, hn => absurd hn (Nat.not_lt_zero _)
  | n + 1, vs, hA, hn => by
    have ihn := prop_spec hv hL hc V n
    have hl := hL.1
    rw [prop_succ]
    refine Evt.step (fun k => rfl) ?_
    simp only [spec_l21Propagate.l0]
    have key := Evt.upS (g := fun k i (u : Int) => spec_l21Propagate.l1 k vs u (i : Int) V cs) (R := fun i u => goOn cs vs n (scanG vs (cs.drop i) u)) (P := fun _ u => u = 0 ∨ Gd v vs u) (n := cs.length) ?_ ?_ 0 0 (Nat.zero_le _) (.inl rfl)
    · simpa using key
    · rintro u hu
      refine Evt.step (fun k => rfl) ?_
      simp only [spec_l21Propagate.l1]
      rw [List.drop_length]
      refine Evt.ite_neg (by omega) ?_
      unfold scanG goOn
      by_cases h0 : u = 0
      · simp only [h0, if_true]
        exact Evt.pure
      · simp only [h0, if_false]
        have hg := hu.resolve_left h0
        have hlt := cnt_lt hv hA hg
        rw [l21Set_eq hv hA hg.1]
        simp only [Option.bind_some]
        exact ihn _ (setV_as hA u) (by omega)
    · rintro i u hi hu ih
      refine Evt.step (fun k => rfl) ?_
      simp only [spec_l21Propagate.l1, rdL1]
      have hm := getD_mem cs i [] hi
      have hf := weigh_first (vs := vs) _ 0 0 (hc _ hm) (by omega) (.inl rfl)
      refine Evt.ite_pos (by omega) (Evt.ite_pos (by omega) ((lstate_eq hv hA (hc _ hm) (hL.2 _ hm)).bind ?_))
      rw [dropD cs i [] hi, scanG]
      obtain ⟨⟨g, o, f⟩, hw⟩ : ∃ t, weighG vs (cs.getD i []) 0 0 = t := ⟨_, rfl⟩
      rw [hw] at hf ⊢
      simp only at hf ⊢
      cases g with
      | true =>
        rw [if_neg (by simp), if_neg (by simp)]
        refine Evt.ite_pos (by first | rfl | trivial) (Evt.step (fun k => rfl) ?_)
        simp only [spec_l21Propagate.j2]
        refine Evt.ite_neg (by simp) (Evt.ite_pos (by first | rfl | trivial) ?_)
        rw [wrap_succ hi (by omega)]
        exact ih u hu
      | false =>
        refine Evt.ite_neg (by simp) (Evt.step (fun k => rfl) ?_)
        simp only [spec_l21Propagate.j2]
        by_cases h0 : o = 0
        · rw [if_pos ⟨by first | rfl | trivial, h0⟩]
          exact Evt.ite_pos (by simpa using h0) Evt.pure
        · rw [if_neg (fun c => h0 c.2)]
          have hg := hf rfl h0
          refine Evt.ite_neg (by simpa using h0) (Evt.ite_neg (by simp) ?_)
          rw [wrap_succ hi (by omega)]
          by_cases h1 : o = 1
          · refine Evt.ite_pos h1 ?_
            by_cases hu0 : u = 0
            · rw [if_pos ⟨by first | rfl | trivial, h1, hu0⟩]
              exact Evt.ite_pos hu0 (ih f (.inr hg))
            · rw [if_neg (fun c => hu0 c.2.2)]
              exact Evt.ite_neg hu0 (ih u hu)
          · rw [if_neg (fun c => h1 c.2.1)]
            exact Evt.ite_neg h1 (ih u hu)
theorem prop_impl {v : Nat} (hv : v ≤ 400) {cs : List (List Int)} (hL : LL cs) (hc : ∀ c ∈ cs, ∀ n ∈ c, Lt v n) (V : Int) : ∀ (n : Nat) (vs : List Int), As v vs → vs.count (-1) < n → Evt (fun k => impl_Propagate.l0 k vs V cs) ((propG cs n vs).1, (propG cs n vs).2, 0)
  | 0, _, _, hn => absurd hn (Nat.not_lt_zero _)
  | n + 1, vs, hA, hn => by
    have ihn := prop_impl hv hL hc V n
    have hl := hL.1
    rw [prop_succ]
    refine Evt.step (fun k => rfl) ?_
    simp only [impl_Propagate.l0]
    have key := Evt.upS (g := fun k i (u : Int) => impl_Propagate.l1 k vs u cs (cs.length : Int) (i : Int) V cs) (R := fun i u => ((goOn cs vs n (scanG vs (cs.drop i) u)).1, (goOn cs vs n (scanG vs (cs.drop i) u)).2, (0 : Int))) (P := fun _ u => u = 0 ∨ Gd v vs u) (n := cs.length) ?_ ?_ 0 0 (Nat.zero_le _) (.inl rfl)
    · simpa using key
    · rintro u hu
      refine Evt.step (fun k => rfl) ?_
      simp only [impl_Propagate.l1]
      rw [List.drop_length]
      refine Evt.ite_neg (by omega) ?_
      unfold scanG goOn
      by_cases h0 : u = 0
      · simp only [h0, if_true]
        exact Evt.pure
      · simp only [h0, if_false]
        have hg := hu.resolve_left h0
        have hlt := cnt_lt hv hA hg
        rw [assign_eq hv hA hg.1]
        simp only [Option.bind_some]
        exact ihn _ (setV_as hA u) (by omega)
    · rintro i u hi hu ih
      refine Evt.step (fun k => rfl) ?_
      simp only [impl_Propagate.l1, rdL1]
      have hm := getD_mem cs i [] hi
      have hf := weigh_first (vs := vs) _ 0 0 (hc _ hm) (by omega) (.inl rfl)
      refine Evt.ite_pos (by omega) (Evt.ite_pos (by omega) (Evt.ite_pos (by omega) ((weigh_eq hv hA (hc _ hm) (hL.2 _ hm)).bind ?_)))
      rw [dropD cs i [] hi, scanG]
      obtain ⟨⟨g, o, f⟩, hw⟩ : ∃ t, weighG vs (cs.getD i []) 0 0 = t := ⟨_, rfl⟩
      rw [hw] at hf ⊢
      simp only at hf ⊢
      cases g with
      | true =>
        rw [if_neg (by simp), if_neg (by simp)]
        refine Evt.ite_pos (by first | rfl | trivial) (Evt.step (fun k => rfl) ?_)
        simp only [impl_Propagate.j2]
        refine Evt.ite_neg (by simp) (Evt.ite_pos (by first | rfl | trivial) ?_)
        rw [wrap_succ hi (by omega)]
        exact ih u hu
      | false =>
        refine Evt.ite_neg (by simp) (Evt.step (fun k => rfl) ?_)
        simp only [impl_Propagate.j2]
        by_cases h0 : o = 0
        · rw [if_pos ⟨by first | rfl | trivial, h0⟩]
          exact Evt.ite_pos (by simpa using h0) Evt.pure
        · rw [if_neg (fun c => h0 c.2)]
          have hg := hf rfl h0
          refine Evt.ite_neg (by simpa using h0) (Evt.ite_neg (by simp) ?_)
          rw [wrap_succ hi (by omega)]
          by_cases h1 : o = 1
          · refine Evt.ite_pos h1 ?_
            by_cases hu0 : u = 0
            · rw [if_pos ⟨by first | rfl | trivial, h1, hu0⟩]
              exact Evt.ite_pos hu0 (ih f (.inr hg))
            · rw [if_neg (fun c => hu0 c.2.2)]
              exact Evt.ite_neg hu0 (ih u hu)
          · rw [if_neg (fun c => h1 c.2.1)]
            exact Evt.ite_neg h1 (ih u hu)
theorem vals_spec {vs : List Int} (V : Int) (hl : vs.length ≤ 1000000000) : Evt (fun k => spec_l20Values.f k vs V) (vs.all inA && decide ((vs.length : Int) = V)) := by
  unfold spec_l20Values.f
  have key := Evt.up (g := fun k i => spec_l20Values.l0 k vs V (i : Int)) (R := fun i => (vs.drop i).all inA && decide ((vs.length : Int) = V)) (n := vs.length) ?_ ?_ 0 (Nat.zero_le _)
  · simpa using key
  · refine Evt.step (fun k => rfl) ?_
    simp only [spec_l20Values.l0]
    rw [List.drop_length]
    refine Evt.ite_neg (by omega) (Evt.const ?_)
    simp only [List.all_nil, Bool.true_and]
    rfl
  · intro i hi ih
    refine Evt.step (fun k => rfl) ?_
    simp only [spec_l20Values.l0, rdN, in_eq, Option.bind_some]
    refine Evt.ite_pos (by omega) (Evt.ite_pos (by omega) ?_)
    rw [wrap_succ hi (by omega), dropD vs i 0 hi, List.all_cons]
    by_cases h : -1 ≤ vs.getD i 0 ∧ vs.getD i 0 ≤ 1
    · rw [show inA (vs.getD i 0) = true by unfold inA; rw [decide_eq_true h.1, decide_eq_true h.2]; rfl, Bool.true_and]
      exact Evt.ite_pos (decide_eq_true h) ih
    · rw [show inA (vs.getD i 0) = false by unfold inA; rw [← Bool.decide_and]; exact decide_eq_false h, Bool.false_and, Bool.false_and]
      exact Evt.ite_neg (by rw [decide_eq_true_eq]; exact h) Evt.pure
def codeA (V : Int) (cs : List (List Int)) (vs : List Int) : Int := if fm V cs = true then (if (vs.all inA && decide ((vs.length : Int) = V)) = true then 0 else 2) else 1
theorem l20Code_eq {V : Int} {cs : List (List Int)} {vs : List Int} (hL : LL cs) (hl : vs.length ≤ 1000000000) : Evt (fun k => spec_l20Code.f k V cs vs) (codeA V cs vs) := by
  unfold spec_l20Code.f codeA
  refine (IsFormula_spec V cs hL).bind ?_
  cases fm V cs
  · rw [if_neg (by simp)]
    exact Evt.ite_neg (by simp) Evt.pure
  · rw [if_pos rfl]
    refine Evt.ite_pos rfl ((vals_spec V hl).bind ?_)
    cases (vs.all inA && decide ((vs.length : Int) = V))
    · exact Evt.ite_neg (by simp) Evt.pure
    · exact Evt.ite_pos rfl Evt.pure
theorem acode_eq {V : Int} {cs : List (List Int)} {vs : List Int} (hL : LL cs) : Evt (fun k => impl_assignmentCode.f k V cs vs) (codeA V cs vs) := by
  unfold impl_assignmentCode.f codeA
  refine (IsFormula_impl V cs hL).bind ?_
  have e : impl_isAssignment.f vs V = some (vs.all inA && decide ((vs.length : Int) = V)) := by unfold impl_isAssignment.f; rw [Bool.and_comm]
  rw [e]
  cases fm V cs
  · exact Evt.pure
  · cases (vs.all inA && decide ((vs.length : Int) = V))
    · exact Evt.pure
    · exact Evt.pure
theorem codeA_zero {V : Int} {cs : List (List Int)} {vs : List Int} (h : codeA V cs vs = 0) : ∃ v : Nat, V = (v : Int) ∧ v ≤ 400 ∧ As v vs ∧ ∀ c ∈ cs, ∀ n ∈ c, Lt v n := by
  unfold codeA at h
  by_cases hf : fm V cs = true
  · rw [if_pos hf] at h
    obtain ⟨⟨h0, h1⟩, _, h3⟩ := fm_iff.1 hf
    obtain ⟨v, rfl⟩ := Int.eq_ofNat_of_zero_le h0
    by_cases ha : (vs.all inA && decide ((vs.length : Int) = (v : Int))) = true
    · obtain ⟨a1, a2⟩ := Bool.and_eq_true_iff.1 ha
      have a3 := of_decide_eq_true a2
      refine ⟨v, rfl, by omega, ⟨by omega, fun x hx => ?_⟩, fun c hc => cl_lits (by omega) c 0 (Int.le_refl _) (h3 c hc)⟩
      have := List.all_eq_true.1 a1 x hx
      unfold inA at this
      simpa using this
    · rw [if_neg ha] at h
      omega
  · rw [if_neg hf] at h
    omega
def propR (V : Int) (cs : List (List Int)) (vs : List Int) : List Int × Bool × Int := if codeA V cs vs = 0 then ((propG cs 401 vs).1, (propG cs 401 vs).2, 0) else ([], false, codeA V cs vs)
theorem propG_len (cs : List (List Int)) : ∀ (n : Nat) (vs : List Int), (propG cs n vs).1.length = vs.length
  | 0, _ => rfl
  | n + 1, vs => by
    rw [prop_succ]
    unfold goOn
    cases scanG vs cs 0 with
    | none => rfl
    | some u =>
      simp only
      split
      · rfl
      · rw [propG_len cs n]
        unfold setV
        rw [List.length_set]
theorem propagate_both {V : Int} {cs : List (List Int)} {vs : List Int} (hL : LL cs) (hl : vs.length ≤ 1048576) : Evt (fun k => spec_Propagate.f k V cs vs) (propR V cs vs) ∧ Evt (fun k => impl_Propagate.f k V cs vs) (propR V cs vs) ∧ (propR V cs vs).1.length ≤ 1048576 := by
  unfold propR
  by_cases h : codeA V cs vs = 0
  · rw [if_pos h]
    obtain ⟨v, rfl, hv, hA, hc⟩ := codeA_zero h
    have hcnt : vs.count (-1) < 401 := by
      have : vs.count (-1) ≤ vs.length := List.count_le_length
      have := hA.1
      omega
    refine ⟨?_, ?_, ?_⟩
    · unfold spec_Propagate.f spec_l21Propagate.f
      refine (l20Code_eq hL (by omega)).bind (Evt.ite_pos h ?_)
      rw [own_eq (by omega)]
      simp only [Option.bind_some]
      exact (prop_spec hv hL hc _ 401 vs hA hcnt).bind Evt.pure
    · unfold impl_Propagate.f slices_Clone_int64_int64.f
      refine (acode_eq hL).bind (Evt.ite_pos h ?_)
      rw [if_pos (by omega)]
      simp only [Option.bind_some]
      exact prop_impl hv hL hc _ 401 vs hA hcnt
    · simp only [propG_len]
      exact hl
  · rw [if_neg h]
    refine ⟨?_, ?_, by simp⟩
    · unfold spec_Propagate.f
      exact (l20Code_eq hL (by omega)).bind (Evt.ite_neg h Evt.pure)
    · unfold impl_Propagate.f
      exact (acode_eq hL).bind (Evt.ite_neg h Evt.pure)
end Go.Proofs.Ytabmmhkikemdjaa.Pure
end
section
namespace Go.Proofs.Ytabmmhkikemdjaa.Pure
open Go.RowKit Go.Proofs.Ytabmmhkikemdjaa Go.Proofs.Ytabmmhkikemdjaa.Q Go.Proofs.YtabmmhkikemdjaaW.PrintWords
set_option linter.unusedVariables false
set_option linter.unusedSimpArgs false
theorem set_at {α : Type} (A r : List α) (v u : α) (i : Nat) (h : A.length = i) : (A ++ v :: r).set i u = A ++ u :: r := by
  rw [List.set_append_right _ _ (Nat.le_of_eq h), h, Nat.sub_self, List.set_cons_zero]
def runI (a : Int) (i : Nat) : List Int := (List.range i).map fun (j : Nat) => a + (j : Int)
theorem runI_len (a : Int) (i : Nat) : (runI a i).length = i := by simp [runI]
theorem runI_succ (a : Int) (i : Nat) : runI a (i + 1) = runI a i ++ [a + (i : Int)] := by simp [runI, List.range_succ]
theorem markI_eq (l : List Int) (a : Int) (h0 : 0 ≤ a) (hb : a + l.length ≤ 4611686018427387904) : Evt (fun k => laws_markInt64S.f k l a) (a + l.length, runI a l.length) := by
  unfold laws_markInt64S.f
  have key := Evt.upS (g := fun k i s => laws_markInt64S.l0 k s (a + (i : Int)) (i : Int)) (R := fun _ _ => (a + (l.length : Int), runI a l.length)) (P := fun i s => s = runI a i ++ l.drop i) (n := l.length) ?_ ?_ 0 l (Nat.zero_le _) (by simp [runI])
  · simpa using key
  · rintro s rfl
    refine Evt.step (fun k => rfl) ?_
    simp only [laws_markInt64S.l0]
    rw [List.drop_length, List.append_nil]
    exact Evt.ite_neg (by rw [runI_len]; omega) Evt.pure
  · rintro i s hi rfl ih
    refine Evt.step (fun k => rfl) ?_
    simp only [laws_markInt64S.l0]
    refine Evt.ite_pos (by rw [List.length_append, runI_len, List.length_drop]; omega) (Evt.ite_pos (by omega) ?_)
    rw [wrap_succ hi (by omega), Int.toNat_natCast, dropD l i 0 hi, set_at _ _ _ _ _ (runI_len a i), show wrap64 (a + (i : Int) + 1) = a + ((i + 1 : Nat) : Int) by unfold wrap64; omega]
    exact ih _ (by rw [runI_succ, List.append_assoc]; rfl)
theorem runI_at (a : Int) {n i : Nat} (h : i < n) : (runI a n).getD i 0 = a + (i : Int) := by
  rw [gd _ _ _ (by rw [runI_len]; exact h)]
  simp [runI]
theorem heldI_eq (n : Nat) (a : Int) (h0 : 0 ≤ a) (hb : a + n ≤ 4611686018427387904) : Evt (fun k => laws_heldInt64S.f k (runI a n) a) (a + n) := by
  unfold laws_heldInt64S.f
  have key := Evt.up (g := fun k i => laws_heldInt64S.l0 k (runI a n) (a + (i : Int)) (i : Int)) (R := fun _ => a + (n : Int)) (n := n) ?_ ?_ 0 (Nat.zero_le _)
  · simpa using key
  · refine Evt.step (fun k => rfl) ?_
    simp only [laws_heldInt64S.l0]
    exact Evt.ite_neg (by rw [runI_len]; omega) Evt.pure
  · intro i hi ih
    refine Evt.step (fun k => rfl) ?_
    simp only [laws_heldInt64S.l0, rdN, runI_at a hi]
    refine Evt.ite_pos (by rw [runI_len]; omega) (Evt.ite_pos (by omega) (Evt.ite_pos (by simp) ?_))
    rw [wrap_succ hi (by omega), show wrap64 (a + (i : Int) + 1) = a + ((i + 1 : Nat) : Int) by unfold wrap64; omega]
    exact ih
theorem markII_eq : ∀ (l : List (List Int)) (a : Int), 0 ≤ a → (∀ c ∈ l, c.length ≤ 1000000000) → a + 1000000000 * l.length ≤ 4611686018427387904 → ∃ r, Evt (fun k => laws_markInt64SS.f k l a) r ∧ a ≤ r ∧ r ≤ a + 1000000000 * l.length
  | [], a, _, _, _ => ⟨a, Evt.pure, by omega, by simp⟩
  | q :: r, a, h0, hc, hb => by
    have hq := hc q (by simp)
    rw [List.length_cons] at hb
    obtain ⟨t, h1, h2, h3⟩ := markII_eq r (a + q.length) (by omega) (fun c h => hc c (by simp [h])) (by omega)
    refine ⟨t, ?_, by omega, by rw [List.length_cons]; omega⟩
    simp only [laws_markInt64SS.f]
    exact (markI_eq q a h0 (by omega)).bind h1
theorem markFormula_eq (v : Int) {l : List (List Int)} (h : LL l) : ∃ r, Evt (fun k => laws_markFormula.f k v l 1) r ∧ 1 ≤ r ∧ r ≤ 1000000000000000001 := by
  obtain ⟨r, h1, h2, h3⟩ := markII_eq l 1 (by omega) h.2 (by have := h.1; omega)
  exact ⟨r, h1, h2, by have := h.1; omega⟩
end Go.Proofs.Ytabmmhkikemdjaa.Pure
end
section
namespace Go.Proofs.Ytabmmhkikemdjaa.Pure
open Go.RowKit Go.Proofs.Ytabmmhkikemdjaa Go.Proofs.Ytabmmhkikemdjaa.Q Go.Proofs.Ytabmmhkikemdjaa.UFnExactPropagate Go.Proofs.YtabmmhkikemdjaaW.PrintWords
set_option linter.unusedVariables false
set_option linter.unusedSimpArgs false
theorem FnExactPropagate : laws_FnExactPropagate_Pure := by
  intro v cs o hv hcs ho _
  apply Evt.out
  unfold laws_FnExactPropagate.f laws_szFormula.f
  by_cases h0 : 1048576 < o.length
  · exact Evt.ite_pos h0 Evt.pure
  refine Evt.ite_neg h0 ?_
  have hs := szInt64SS_eq cs 1048576 (by omega) (by omega) hcs.1 (fun c h => (hcs.2 c h).1)
  generalize hb : (if (1048576 : Int) - (cs.length : Int) < 0 then (-1 : Int) else szs (1048576 - (cs.length : Int)) cs) = b at hs
  by_cases hneg : b < 0
  · exact (hs.bind (Evt.ite_pos hneg Evt.pure)).bind (Evt.ite_pos (by omega) Evt.pure)
  · have hL : LL cs := by
      by_cases h0 : (1048576 : Int) - (cs.length : Int) < 0
      · rw [if_pos h0] at hb; omega
      · rw [if_neg h0] at hb
        refine ⟨by omega, fun c hc => ?_⟩
        have := szs_le cs (1048576 - (cs.length : Int)) (by omega) (by rw [hb]; omega) c hc
        omega
    refine (hs.bind (Evt.ite_neg hneg Evt.pure)).bind (Evt.ite_neg hneg ?_)
    obtain ⟨b1, b2, bl⟩ := propagate_both (V := v) (vs := o) hL (by omega)
    obtain ⟨m, m1, m2, m3⟩ := markFormula_eq v hL
    refine (toFormula_eq v cs hL).bind ((toInt64S_eq o (by omega)).bind (b1.bind (b2.bind ((eqInt64S_refl _ (by omega)).bind ((eqFormula_refl v cs hL).bind ((eqInt64S_refl _ (by omega)).bind (m1.bind ((markI_eq _ m (by omega) (by omega)).bind ((markI_eq _ 1 (by omega) (by omega)).bind ((heldI_eq _ 1 (by omega) (by omega)).bind ?_))))))))))
    exact Evt.ite_pos ⟨rfl, rfl, rfl, rfl, by simp only; omega, rfl, by omega⟩ Evt.pure
end Go.Proofs.Ytabmmhkikemdjaa.Pure
end
