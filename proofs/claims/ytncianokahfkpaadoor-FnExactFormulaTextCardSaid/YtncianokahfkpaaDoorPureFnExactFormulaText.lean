/- The pure side of the law FnExactFormulaText: parts of this session, put into one text by merge.py. -/
import Derived.Test.YtncianokahfkpaaDoorQ0
import Derived.Test.YtncianokahfkpaaDoorOpn
import Derived.Test.YtncianokahfkpaaDoorQ1
import Derived.Test.YtncianokahfkpaaDoorQ7
import Derived.Test.YtncianokahfkpaaDoorQ2
import Derived.Test.YtncianokahfkpaaDoorQ3
import Derived.Test.YtncianokahfkpaaDoorQ6
import Derived.Test.YtncianokahfkpaaDoorQ8
import Derived.Test.YtncianokahfkpaaDoorQGimplIsFormula
import Derived.Test.YtncianokahfkpaaDoorQ10
import Derived.Test.YtncianokahfkpaaDoorQ5
import Derived.Test.YtncianokahfkpaaDoorQGimplclausesText
import Derived.Test.YtncianokahfkpaaDoorQGspecFormulaText
import Derived.Test.YtncianokahfkpaaDoorQGimplformulaText
import Derived.Test.YtncianokahfkpaaDoorQGimplFormulaText
import Derived.Test.YtncianokahfkpaaDoorQGlawsFnExactFormulaText
import Derived.Test.YtncianokahfkpaaDoorUFnExactFormulaText
section
namespace Go.Proofs.YtncianokahfkpaaDoor.Pure
open Go.RowKit
set_option linter.unusedVariables false
set_option linter.unusedSimpArgs false
def Evt {α : Type} (g : Nat → Option α) (r : α) : Prop := ∃ K, ∀ k, K ≤ k → g k = some r
theorem Evt.out {α : Type} {g : Nat → Option α} {r : α} (h : Evt g r) : ∃ k, g k = some r := by
  obtain ⟨K, h⟩ := h
  exact ⟨K, h K (Nat.le_refl _)⟩
theorem Evt.pure {α : Type} {r : α} : Evt (fun _ => some r) r := ⟨0, fun _ _ => rfl⟩
theorem Evt.of_eq {α : Type} {g g' : Nat → Option α} {r : α} (e : ∀ k, g' k = g k) (h : Evt g r) : Evt g' r := by
  obtain ⟨K, h⟩ := h
  exact ⟨K, fun k hk => (e k).trans (h k hk)⟩
theorem Evt.bind {α β : Type} {g : Nat → Option α} {f : Nat → α → Option β} {a : α} {r : β} (h : Evt g a) (h2 : Evt (fun k => f k a) r) : Evt (fun k => (g k).bind (f k)) r := by
  obtain ⟨K, h⟩ := h
  obtain ⟨K2, h2⟩ := h2
  refine ⟨K + K2, fun k hk => ?_⟩
  show (g k).bind (f k) = some r
  rw [h k (by omega)]
  exact h2 k (by omega)
theorem Evt.step {α : Type} {g h : Nat → Option α} {r : α} (e : ∀ k, g (k + 1) = h k) (hh : Evt h r) : Evt g r := by
  obtain ⟨K, hh⟩ := hh
  refine ⟨K + 1, fun k hk => ?_⟩
  obtain ⟨m, rfl⟩ : ∃ m, k = m + 1 := ⟨k - 1, by omega⟩
  rw [e m]
  exact hh m (by omega)
theorem Evt.ite_pos {α : Type} {c : Prop} [Decidable c] {g h : Nat → Option α} {r : α} (hc : c) (hg : Evt g r) : Evt (fun k => if c then g k else h k) r := Evt.of_eq (fun k => if_pos hc) hg
theorem Evt.ite_neg {α : Type} {c : Prop} [Decidable c] {g h : Nat → Option α} {r : α} (hc : ¬ c) (hg : Evt h r) : Evt (fun k => if c then g k else h k) r := Evt.of_eq (fun k => if_neg hc) hg
theorem Evt.up {α : Type} {g : Nat → Nat → Option α} {R : Nat → α} {n : Nat} (hend : Evt (fun k => g k n) (R n)) (hstep : ∀ i, i < n → Evt (fun k => g k (i + 1)) (R (i + 1)) → Evt (fun k => g k i) (R i)) : ∀ i, i ≤ n → Evt (fun k => g k i) (R i) := by
  intro i hi
  obtain ⟨d, hd⟩ : ∃ d, n = i + d := ⟨n - i, by omega⟩
  induction d generalizing i with
  | zero => have e : i = n := by omega
            rw [e]; exact hend
  | succ d ih => exact hstep i (by omega) (ih (i + 1) (by omega) (by omega))
theorem Evt.upS {α σ : Type} {g : Nat → Nat → σ → Option α} {R : Nat → σ → α} {P : Nat → σ → Prop} {n : Nat} (hend : ∀ s, P n s → Evt (fun k => g k n s) (R n s))
    (hstep : ∀ i s, i < n → P i s → (∀ s', P (i + 1) s' → Evt (fun k => g k (i + 1) s') (R (i + 1) s')) → Evt (fun k => g k i s) (R i s)) : ∀ i s, i ≤ n → P i s → Evt (fun k => g k i s) (R i s) := by
  intro i s hi hp
  obtain ⟨d, hd⟩ : ∃ d, n = i + d := ⟨n - i, by omega⟩
  induction d generalizing i s with
  | zero => have e : i = n := by omega
            rw [e] at hp ⊢; exact hend s hp
  | succ d ih => exact hstep i s (by omega) hp (fun s' hp' => ih (i + 1) s' (by omega) hp' (by omega))
def Both {α : Type} (g h : Nat → Option α) : Prop := ∃ r, Evt g r ∧ Evt h r
theorem Both.of {α : Type} {g h : Nat → Option α} {r : α} (a : Evt g r) (b : Evt h r) : Both g h := ⟨r, a, b⟩
theorem Both.eql {α : Type} {g g' h : Nat → Option α} (e : ∀ k, g k = g' k) (b : Both g' h) : Both g h := by
  obtain ⟨r, a, b⟩ := b
  exact ⟨r, a.of_eq e, b⟩
theorem Both.eqr {α : Type} {g h h' : Nat → Option α} (e : ∀ k, h k = h' k) (b : Both g h') : Both g h := by
  obtain ⟨r, a, b⟩ := b
  exact ⟨r, a, b.of_eq e⟩
theorem Both.bindl {α β : Type} {g : Nat → Option β} {f : Nat → β → Option α} {h : Nat → Option α} {x : β} (e : Evt g x) (b : Both (fun k => f k x) h) : Both (fun k => (g k).bind (f k)) h := by
  obtain ⟨r, a, b⟩ := b
  exact ⟨r, e.bind a, b⟩
theorem Both.bindr {α β : Type} {g : Nat → Option β} {f : Nat → β → Option α} {h : Nat → Option α} {x : β} (e : Evt g x) (b : Both h (fun k => f k x)) : Both h (fun k => (g k).bind (f k)) := by
  obtain ⟨r, a, b⟩ := b
  exact ⟨r, a, e.bind b⟩
theorem Both.pure {α : Type} {r : α} : Both (fun _ => some r) (fun _ => some r) := ⟨r, Evt.pure, Evt.pure⟩
theorem Both.pl {α : Type} {c : Prop} [Decidable c] {g g' h : Nat → Option α} (hc : c) (b : Both g h) : Both (fun k => if c then g k else g' k) h := Both.eql (fun _ => if_pos hc) b
theorem Both.nl {α : Type} {c : Prop} [Decidable c] {g g' h : Nat → Option α} (hc : ¬ c) (b : Both g' h) : Both (fun k => if c then g k else g' k) h := Both.eql (fun _ => if_neg hc) b
theorem Both.pr {α : Type} {c : Prop} [Decidable c] {g h h' : Nat → Option α} (hc : c) (b : Both g h) : Both g (fun k => if c then h k else h' k) := Both.eqr (fun _ => if_pos hc) b
theorem Both.nr {α : Type} {c : Prop} [Decidable c] {g h h' : Nat → Option α} (hc : ¬ c) (b : Both g h') : Both g (fun k => if c then h k else h' k) := Both.eqr (fun _ => if_neg hc) b
theorem wrap_succ {i n : Nat} (h : i < n) (hn : n ≤ 9223372036854775807) : wrap64 ((i : Int) + 1) = ((i + 1 : Nat) : Int) := by
  unfold wrap64
  omega
end Go.Proofs.YtncianokahfkpaaDoor.Pure
end
section
namespace Go.Proofs.YtncianokahfkpaaDoor.Pure
open Go.RowKit Go.Proofs.YtncianokahfkpaaDoor Go.Proofs.YtncianokahfkpaaDoor.Q Go.Proofs.YtncianokahfkpaaDoorW.PrintWords
set_option linter.unusedVariables false
set_option linter.unusedSimpArgs false
theorem w64 {n : Int} (h0 : -9223372036854775808 ≤ n) (h1 : n ≤ 9223372036854775807) : wrap64 n = n := by
  unfold wrap64
  omega
theorem in_eq (a b c : Int) : spec_l01In.f a b c = some (decide (b ≤ a ∧ a ≤ c)) := by
  unfold spec_l01In.f
  by_cases h : a ≥ b
  · rw [if_pos h]; simp; intro _; exact h
  · rw [if_neg h]; simp; intro h2; omega
theorem within_eq (a b c : Int) : impl_within.f a b c = some (decide (b ≤ a ∧ a ≤ c)) := in_eq a b c
end Go.Proofs.YtncianokahfkpaaDoor.Pure
end
section
namespace Go.Proofs.YtncianokahfkpaaDoor.Pure
open Go.RowKit Go.Proofs.YtncianokahfkpaaDoor Go.Proofs.YtncianokahfkpaaDoor.Q Go.Proofs.YtncianokahfkpaaDoorW.PrintWords
set_option linter.unusedVariables false
set_option linter.unusedSimpArgs false
theorem gd {α : Type} (l : List α) (i : Nat) (z : α) (h : i < l.length) : l.getD i z = l[i] := by simp [List.getD_eq_getElem?_getD, List.getElem?_eq_getElem h]
theorem dropD {α : Type} (l : List α) (i : Nat) (z : α) (h : i < l.length) : l.drop i = l.getD i z :: l.drop (i + 1) := by
  rw [List.drop_eq_getElem_cons h, gd l i z h]
theorem rdN (l : List Int) (i : Nat) : rd l (i : Int) = l.getD i 0 := by simp [rd]
theorem rdL1 (l : List (List Int)) (i : Nat) : rd_L1 l (i : Int) = l.getD i [] := by simp [rd_L1]
theorem getD_mem {α : Type} (l : List α) (i : Nat) (z : α) (h : i < l.length) : l.getD i z ∈ l := by rw [gd l i z h]; exact List.getElem_mem h
def ab (a : Int) : Int := mx a (wrap64 (-a))
theorem ab_eq {a : Int} (h0 : -1000000 ≤ a) (h1 : a ≤ 1000000) : ab a = if a < 0 then -a else a := by
  unfold ab mx
  rw [w64 (by omega) (by omega)]
  by_cases h : a < 0
  · rw [if_pos (by omega), if_pos h]
  · rw [if_neg h]
    by_cases h2 : a < -a
    · omega
    · rw [if_neg h2]
theorem variableOf_eq (a : Int) : impl_variableOf.f a = some (ab a) := rfl
theorem l01Abs_eq (a : Int) : spec_l01Abs.f a = some (ab a) := rfl
def cl (v : Int) : Int → List Int → Bool
  | _, [] => true
  | last, n :: r => if -v ≤ n ∧ n ≤ v then (if ab n ≤ last then false else cl v (ab n) r) else false
theorem isClause_eq (l : List Int) (v : Int) (hv0 : 0 ≤ v) (hv : v ≤ 400) (hl : l.length ≤ 1000000000) : Evt (fun k => impl_isClause.f k l v) (cl v 0 l) := by
  unfold impl_isClause.f
  refine Evt.upS (g := fun k i s => impl_isClause.l0 k v s l (l.length : Int) (i : Int)) (R := fun i s => cl v s (l.drop i)) (P := fun _ _ => True) (n := l.length) ?_ ?_ 0 0 (Nat.zero_le _) trivial
  · rintro s _
    refine Evt.step (fun k => rfl) ?_
    simp only [impl_isClause.l0]
    rw [List.drop_length]
    exact Evt.ite_neg (by omega) Evt.pure
  · rintro i s hi _ ih
    refine Evt.step (fun k => rfl) ?_
    have ih' := ih (ab (l.getD i 0)) trivial
    simp only [impl_isClause.l0, rdN, within_eq, variableOf_eq, Option.bind_some]
    refine Evt.ite_pos (by omega) (Evt.ite_pos (by omega) (Evt.ite_pos (by omega) ?_))
    rw [wrap_succ hi (by omega), dropD l i 0 hi, w64 (n := -v) (by omega) (by omega)]
    unfold cl
    by_cases c : -v ≤ l.getD i 0 ∧ l.getD i 0 ≤ v
    · rw [if_pos c]
      refine Evt.ite_pos (by simpa using c) ?_
      by_cases c2 : ab (l.getD i 0) ≤ s
      · rw [if_pos c2]
        exact Evt.ite_pos c2 Evt.pure
      · rw [if_neg c2]
        exact Evt.ite_neg c2 ih'
    · rw [if_neg c]
      exact Evt.ite_neg (by simpa using c) Evt.pure
theorem l20Clause_eq (l : List Int) (v : Int) (hv0 : 0 ≤ v) (hv : v ≤ 400) (hl : l.length ≤ 1000000000) : Evt (fun k => spec_l20Clause.f k l v) (cl v 0 l) := by
  unfold spec_l20Clause.f
  refine Evt.upS (g := fun k i _ => spec_l20Clause.l0 k l v (i : Int)) (R := fun i s => cl v s (l.drop i)) (P := fun i s => 0 ≤ s ∧ (i = 0 → s = 0) ∧ ∀ j, i = j + 1 → s = ab (l.getD j 0)) (n := l.length) ?_ ?_ 0 0 (Nat.zero_le _) ⟨by omega, fun _ => rfl, fun j hj => by omega⟩
  · rintro s _
    refine Evt.step (fun k => rfl) ?_
    simp only [spec_l20Clause.l0]
    rw [List.drop_length]
    exact Evt.ite_neg (by omega) Evt.pure
  · rintro i s hi ⟨hs0, hs1, hs2⟩ ih
    refine Evt.step (fun k => rfl) ?_
    simp only [spec_l20Clause.l0, rdN, in_eq, l01Abs_eq, Option.bind_some]
    refine Evt.ite_pos (by omega) (Evt.ite_pos (by omega) ?_)
    rw [wrap_succ hi (by omega), dropD l i 0 hi, w64 (n := -v) (by omega) (by omega)]
    unfold cl
    generalize hn : l.getD i 0 = n at ih ⊢
    by_cases c : -v ≤ n ∧ n ≤ v
    · have hab := ab_eq (a := n) (by omega) (by omega)
      have ha0 : 0 ≤ ab n := by rw [hab]; split <;> omega
      have hz : ab n ≤ 0 ↔ n = 0 := by rw [hab]; constructor <;> intro h <;> (first | (split at h <;> omega) | (subst h; simp))
      have ih' := ih (ab n) ⟨ha0, fun h => by omega, fun j hj => by obtain rfl : i = j := by omega
                                                                    rw [hn]⟩
      rw [if_pos c]
      by_cases c1 : n = 0
      · have c2 : ab n ≤ s := by have := hz.2 c1; omega
        rw [if_pos c2]
        exact Evt.ite_pos c1 Evt.pure
      · refine Evt.ite_neg c1 (Evt.ite_pos (by simpa using c) ?_)
        by_cases c0 : i = 0
        · have e := hs1 c0
          rw [if_neg (by rw [e]; exact fun h => c1 (hz.1 h))]
          exact Evt.ite_neg (by omega) ih'
        · obtain ⟨j, rfl⟩ : ∃ j, i = j + 1 := ⟨i - 1, by omega⟩
          have e := hs2 j rfl
          refine Evt.ite_pos (by omega) ?_
          have ej : wrap64 (((j + 1 : Nat) : Int) - 1) = (j : Int) := by rw [w64 (by omega) (by omega)]; omega
          rw [ej, rdN, ← e]
          refine Evt.ite_pos (by omega) (Evt.ite_pos (by omega) ?_)
          by_cases c2 : ab n ≤ s
          · rw [if_pos c2]
            exact Evt.ite_pos c2 Evt.pure
          · rw [if_neg c2]
            exact Evt.ite_neg c2 ih'
    · rw [if_neg c]
      by_cases c1 : n = 0
      · exact absurd ⟨by omega, by omega⟩ c
      · exact Evt.ite_neg c1 (Evt.ite_neg (by simpa using c) Evt.pure)
def fm (v : Int) (cs : List (List Int)) : Bool := decide (0 ≤ v ∧ v ≤ 400) && (!decide ((cs.length : Int) > 20000) && cs.all (cl v 0))
theorem fm_iff {v : Int} {cs : List (List Int)} : fm v cs = true ↔ (0 ≤ v ∧ v ≤ 400) ∧ cs.length ≤ 20000 ∧ ∀ c ∈ cs, cl v 0 c = true := by
  unfold fm
  simp [List.all_eq_true]
  omega
def LL (cs : List (List Int)) : Prop := cs.length ≤ 1000000000 ∧ ∀ c ∈ cs, c.length ≤ 1000000000
theorem all_eq (v : Int) (hv0 : 0 ≤ v) (hv : v ≤ 400) : ∀ (cs : List (List Int)), (∀ c ∈ cs, c.length ≤ 1000000000) → Evt (fun k => impl_IsFormula.all k v cs) (cs.all (cl v 0))
  | [], _ => Evt.pure
  | c :: r, h => by
    have ih := all_eq v hv0 hv r (fun d hd => h d (List.mem_cons_of_mem _ hd))
    refine Evt.of_eq (fun k => rfl) ((isClause_eq c v hv0 hv (h c List.mem_cons_self)).bind ?_)
    rw [List.all_cons]
    cases e : cl v 0 c
    · exact Evt.ite_neg (by simp) Evt.pure
    · refine Evt.ite_pos rfl ?_
      rw [Bool.true_and]
      exact ih
theorem IsFormula_impl (v : Int) (cs : List (List Int)) (h : LL cs) : Evt (fun k => impl_IsFormula.f k v cs) (fm v cs) := by
  unfold impl_IsFormula.f fm
  simp only [within_eq, Option.bind_some]
  by_cases c : 0 ≤ v ∧ v ≤ 400
  · refine Evt.ite_pos (by simpa using c) ?_
    by_cases c2 : (cs.length : Int) > 20000
    · simp only [c2, decide_true, Bool.not_true, Bool.false_and, Bool.and_false]
      exact Evt.ite_pos trivial Evt.pure
    · simp only [c, c2, decide_true, decide_false, Bool.not_false, Bool.true_and, and_self]
      exact Evt.ite_neg (by simp) (all_eq v c.1 c.2 cs h.2)
  · simp only [c, decide_false, Bool.false_and]
    exact Evt.ite_neg (by simp) Evt.pure
theorem IsFormula_spec (v : Int) (cs : List (List Int)) (h : LL cs) : Evt (fun k => spec_IsFormula.f k v cs) (fm v cs) := by
  unfold spec_IsFormula.f fm
  simp only [in_eq, Option.bind_some]
  have hl := h.1
  by_cases c : 0 ≤ v ∧ v ≤ 400
  · refine Evt.ite_pos (by simpa using c) (Evt.step (fun k => rfl) ?_)
    simp only [spec_IsFormula.j0]
    by_cases c2 : (cs.length : Int) > 20000
    · simp only [c2, decide_true, Bool.not_true, Bool.false_and, Bool.and_false]
      exact Evt.ite_pos (by simp) Evt.pure
    · simp only [c, c2, decide_true, decide_false, Bool.not_false, Bool.true_and, and_self]
      refine Evt.ite_neg (by simp) ?_
      refine Evt.up (g := fun k i => spec_IsFormula.l0 k (i : Int) v cs) (R := fun i => (cs.drop i).all (cl v 0)) (n := cs.length) ?_ ?_ 0 (Nat.zero_le _)
      · refine Evt.step (fun k => rfl) ?_
        simp only [spec_IsFormula.l0]
        rw [List.drop_length]
        exact Evt.ite_neg (by omega) Evt.pure
      · intro i hi ih
        refine Evt.step (fun k => rfl) ?_
        simp only [spec_IsFormula.l0, rdL1]
        refine Evt.ite_pos (by omega) (Evt.ite_pos (by omega) ?_)
        refine (l20Clause_eq (cs.getD i []) v c.1 c.2 (h.2 _ (getD_mem cs i [] hi))).bind ?_
        rw [wrap_succ hi (by omega), dropD cs i [] hi, List.all_cons]
        cases e : cl v 0 (cs.getD i [])
        · exact Evt.ite_neg (by simp) Evt.pure
        · refine Evt.ite_pos rfl ?_
          rw [Bool.true_and]
          exact ih
  · simp only [c, decide_false, Bool.false_and]
    refine Evt.ite_neg (by simp) (Evt.step (fun k => rfl) ?_)
    simp only [spec_IsFormula.j0]
    exact Evt.ite_pos (by simp) Evt.pure
def szs : Int → List (List Int) → Int
  | t, [] => t
  | t, c :: r => if t - c.length < 0 then -1 else szs (t - c.length) r
theorem szs_le : ∀ (l : List (List Int)) (t : Int), 0 ≤ t → 0 ≤ szs t l → ∀ c ∈ l, (c.length : Int) ≤ t
  | [], _, _, _ => fun _ h => by cases h
  | c :: r, t, h0, h => by
    unfold szs at h
    by_cases h1 : t - c.length < 0
    · rw [if_pos h1] at h; omega
    · rw [if_neg h1] at h
      have ih := szs_le r _ (by omega) h
      intro d hd
      rcases List.mem_cons.1 hd with rfl | hd
      · omega
      · have := ih d hd; omega
theorem szInt64SS_eq (cs : List (List Int)) (a : Int) (ha0 : 0 ≤ a) (ha : a ≤ 1000000000) (hl : cs.length ≤ maxLen) (hc : ∀ c ∈ cs, c.length ≤ maxLen) : Evt (fun k => laws_szInt64SS.f k cs a) (if a - cs.length < 0 then -1 else szs (a - cs.length) cs) := by
  unfold maxLen at hl hc
  unfold laws_szInt64SS.f
  rw [w64 (by omega) (by omega)]
  by_cases h : a - (cs.length : Int) < 0
  · rw [if_pos h]
    exact Evt.ite_pos h Evt.pure
  · rw [if_neg h]
    refine Evt.ite_neg h ?_
    refine Evt.upS (g := fun k i t => laws_szInt64SS.l0 k cs t (i : Int)) (R := fun i t => szs t (cs.drop i)) (P := fun _ t => 0 ≤ t ∧ t ≤ 1000000000) (n := cs.length) ?_ ?_ 0 _ (Nat.zero_le _) ⟨by omega, by omega⟩
    · rintro t _
      refine Evt.step (fun k => rfl) ?_
      simp only [laws_szInt64SS.l0]
      rw [List.drop_length]
      exact Evt.ite_neg (by omega) Evt.pure
    · rintro i t hi ⟨ht0, ht1⟩ ih
      have hci := hc _ (getD_mem cs i [] hi)
      refine Evt.step (fun k => rfl) ?_
      have e : laws_szInt64S.f (cs.getD i []) t = some (if t - (cs.getD i []).length < 0 then -1 else t - (cs.getD i []).length) := by
        unfold laws_szInt64S.f
        rw [w64 (by omega) (by omega)]
        split <;> rfl
      simp only [laws_szInt64SS.l0, rdL1, e, Option.bind_some]
      refine Evt.ite_pos (by omega) (Evt.ite_pos (by omega) ?_)
      rw [wrap_succ hi (by omega), dropD cs i [] hi]
      unfold szs
      by_cases h2 : t - ((cs.getD i []).length : Int) < 0
      · rw [if_pos h2, if_pos h2]
        exact Evt.ite_pos (by omega) Evt.pure
      · rw [if_neg h2, if_neg h2]
        exact Evt.ite_neg h2 (ih _ ⟨by omega, by omega⟩)
theorem setTake {α : Type} (l acc : List α) (i : Nat) (hi : i < l.length) (hl : acc.length = l.length) (h : acc.take i = l.take i) : (acc.set i l[i]).take (i + 1) = l.take (i + 1) := by
  apply List.ext_getElem?
  intro j
  have h3 := congrArg (fun z => z[j]?) h
  simp only [List.getElem?_take] at h3 ⊢
  by_cases hj : j < i
  · rw [if_pos (by omega)] at h3 ⊢
    rw [if_pos (by omega)] at h3 ⊢
    rw [List.getElem?_set_ne (by omega)]
    exact h3
  · by_cases hj2 : j = i
    · subst hj2
      rw [if_pos (by omega), if_pos (by omega), List.getElem?_set_self (by omega), List.getElem?_eq_getElem hi]
    · rw [if_neg (by omega), if_neg (by omega)]
theorem toInt64S_eq (l : List Int) (hl : l.length ≤ 1000000000) : Evt (fun k => laws_toInt64S.f k l) l := by
  unfold laws_toInt64S.f
  refine Evt.ite_pos (by omega) (Evt.ite_pos (by omega) ?_)
  refine Evt.upS (g := fun k i acc => laws_toInt64S.l0 k l acc (i : Int)) (R := fun _ _ => l) (P := fun i acc => acc.length = l.length ∧ acc.take i = l.take i) (n := l.length) ?_ ?_ 0 _ (Nat.zero_le _) ⟨by simp, by simp⟩
  · rintro acc ⟨h1, h2⟩
    refine Evt.step (fun k => rfl) ?_
    simp only [laws_toInt64S.l0]
    refine Evt.ite_neg (by omega) ?_
    rw [List.take_of_length_le (by omega), List.take_length] at h2
    rw [h2]
    exact Evt.pure
  · rintro i acc hi ⟨h1, h2⟩ ih
    refine Evt.step (fun k => rfl) ?_
    simp only [laws_toInt64S.l0, rdN]
    refine Evt.ite_pos (by omega) (Evt.ite_pos (by omega) (Evt.ite_pos (by omega) ?_))
    rw [wrap_succ hi (by omega), Int.toNat_natCast, gd l i 0 hi]
    exact ih _ ⟨by simpa using h1, setTake l acc i hi h1 h2⟩
theorem toInt64SS_eq (l : List (List Int)) (h : LL l) : Evt (fun k => laws_toInt64SS.f k l) l := by
  have hl := h.1
  unfold laws_toInt64SS.f
  refine Evt.ite_pos (by omega) (Evt.ite_pos (by omega) ?_)
  refine Evt.upS (g := fun k i acc => laws_toInt64SS.l0 k l acc (i : Int)) (R := fun _ _ => l) (P := fun i acc => acc.length = l.length ∧ acc.take i = l.take i) (n := l.length) ?_ ?_ 0 _ (Nat.zero_le _) ⟨by simp, by simp⟩
  · rintro acc ⟨h1, h2⟩
    refine Evt.step (fun k => rfl) ?_
    simp only [laws_toInt64SS.l0]
    refine Evt.ite_neg (by omega) ?_
    rw [List.take_of_length_le (by omega), List.take_length] at h2
    rw [h2]
    exact Evt.pure
  · rintro i acc hi ⟨h1, h2⟩ ih
    refine Evt.step (fun k => rfl) ?_
    simp only [laws_toInt64SS.l0, rdL1]
    refine Evt.ite_pos (by omega) (Evt.ite_pos (by omega) ?_)
    refine (toInt64S_eq _ (h.2 _ (getD_mem l i [] hi))).bind (Evt.ite_pos (by omega) ?_)
    rw [wrap_succ hi (by omega), Int.toNat_natCast, gd l i [] hi]
    exact ih _ ⟨by simpa using h1, setTake l acc i hi h1 h2⟩
theorem eqInt64S_refl (l : List Int) (hl : l.length ≤ 1000000000) : Evt (fun k => laws_eqInt64S.f k l l) true := by
  unfold laws_eqInt64S.f
  refine Evt.ite_pos rfl ?_
  refine Evt.up (g := fun k i => laws_eqInt64S.l0 k l l (i : Int)) (R := fun _ => true) (n := l.length) ?_ ?_ 0 (Nat.zero_le _)
  · refine Evt.step (fun k => rfl) ?_
    simp only [laws_eqInt64S.l0]
    exact Evt.ite_neg (by omega) Evt.pure
  · intro i hi ih
    refine Evt.step (fun k => rfl) ?_
    simp only [laws_eqInt64S.l0]
    refine Evt.ite_pos (by omega) (Evt.ite_pos (by omega) (Evt.ite_pos (by omega) (Evt.ite_pos (by simp) ?_)))
    rw [wrap_succ hi (by omega)]
    exact ih
theorem eqInt64SS_refl (l : List (List Int)) (h : LL l) : Evt (fun k => laws_eqInt64SS.f k l l) true := by
  have hl := h.1
  unfold laws_eqInt64SS.f
  refine Evt.ite_pos rfl ?_
  refine Evt.up (g := fun k i => laws_eqInt64SS.l0 k l l (i : Int)) (R := fun _ => true) (n := l.length) ?_ ?_ 0 (Nat.zero_le _)
  · refine Evt.step (fun k => rfl) ?_
    simp only [laws_eqInt64SS.l0]
    exact Evt.ite_neg (by omega) Evt.pure
  · intro i hi ih
    refine Evt.step (fun k => rfl) ?_
    simp only [laws_eqInt64SS.l0, rdL1]
    refine Evt.ite_pos (by omega) (Evt.ite_pos (by omega) (Evt.ite_pos (by omega) ?_))
    refine (eqInt64S_refl _ (h.2 _ (getD_mem l i [] hi))).bind (Evt.ite_pos rfl ?_)
    rw [wrap_succ hi (by omega)]
    exact ih
theorem toFormula_eq (v : Int) (l : List (List Int)) (h : LL l) : Evt (fun k => laws_toFormula.f k v l) (v, l) := by
  unfold laws_toFormula.f
  exact (toInt64SS_eq l h).bind Evt.pure
theorem eqFormula_refl (v : Int) (l : List (List Int)) (h : LL l) : Evt (fun k => laws_eqFormula.f k v l v l) true := by
  unfold laws_eqFormula.f
  exact Evt.ite_pos rfl ((eqInt64SS_refl l h).bind (Evt.ite_pos rfl Evt.pure))
end Go.Proofs.YtncianokahfkpaaDoor.Pure
end
section
namespace Go.Proofs.YtncianokahfkpaaDoor.Pure
open Go.RowKit Go.Proofs.YtncianokahfkpaaDoor Go.Proofs.YtncianokahfkpaaDoor.Q Go.Proofs.YtncianokahfkpaaDoorW.PrintWords
set_option linter.unusedVariables false
set_option linter.unusedSimpArgs false
def nb (l : List UInt8) : List Int := l.map (fun b => (b.toNat : Int))
theorem arr_app (a b : List UInt8) : (⟨a.toArray⟩ : ByteArray) ++ ⟨b.toArray⟩ = ⟨(a ++ b).toArray⟩ := by
  apply ByteArray.ext
  simp
theorem arr_size (a : List UInt8) : (⟨a.toArray⟩ : ByteArray).size = a.length := by
  show a.toArray.size = _
  simp
theorem dig_eq (u : Nat) (h : u < 10) : strOfNums [wrap64 (48 + (u : Int)) % 256] = ⟨[UInt8.ofNat (48 + u)].toArray⟩ := by
  unfold strOfNums
  rw [w64 (by omega) (by omega)]
  have e : (48 + (u : Int)) % 256 = ((48 + u : Nat) : Int) := by omega
  rw [e]
  show (⟨[UInt8.ofNat (((48 + u : Nat) : Int).toNat)].toArray⟩ : ByteArray) = _
  rw [Int.toNat_natCast]
theorem dec_eq : ∀ (n u : Nat), u < n → u ≤ 1000000000 → Evt (fun k => spec_l01Dec.f k (u : Int)) ⟨(Lib.decDigits u).toArray⟩ ∧ (Lib.decDigits u).length ≤ u + 1
  | 0, u, h, _ => absurd h (Nat.not_lt_zero u)
  | n + 1, u, h, hb => by
    rw [Lib.decDigits]
    by_cases h10 : u < 10
    · rw [dif_pos h10]
      refine ⟨?_, by simp⟩
      refine Evt.step (fun k => rfl) ?_
      simp only [spec_l01Dec.f]
      refine Evt.ite_pos (by omega) ?_
      rw [dig_eq u h10]
      exact Evt.pure
    · rw [dif_neg h10]
      obtain ⟨ih, il⟩ := dec_eq n (u / 10) (by omega) (by omega)
      refine ⟨?_, by rw [List.length_append, List.length_singleton]; omega⟩
      refine Evt.step (fun k => rfl) ?_
      simp only [spec_l01Dec.f]
      refine Evt.ite_neg (by omega) ?_
      have e1 : wrap64 (Int.tdiv (u : Int) 10) = ((u / 10 : Nat) : Int) := by
        rw [Int.tdiv_eq_ediv_of_nonneg (by omega), w64 (by omega) (by omega)]; omega
      have e2 : Int.tmod (u : Int) 10 = ((u % 10 : Nat) : Int) := by
        rw [Int.tmod_eq_emod_of_nonneg (by omega)]; omega
      rw [e1, e2]
      refine ih.bind ?_
      simp only [Option.bind_some]
      rw [dig_eq (u % 10) (by omega), arr_app]
      refine Evt.ite_pos ?_ Evt.pure
      rw [arr_size, arr_size, List.length_singleton]
      omega
theorem number_eq {n : Int} (h0 : -400 ≤ n) (h1 : n ≤ 400) : Evt (fun k => spec_l20Number.f k n) ⟨(Lib.itoa n).toArray⟩ ∧ (Lib.itoa n).length ≤ 1000 := by
  unfold spec_l20Number.f Lib.itoa
  by_cases hn : n < 0
  · rw [if_pos hn]
    obtain ⟨e, l⟩ := dec_eq (n.natAbs + 1) n.natAbs (by omega) (by omega)
    refine ⟨Evt.ite_pos hn ?_, by rw [List.length_cons]; omega⟩
    rw [w64 (by omega) (by omega), show (-n) = ((n.natAbs : Nat) : Int) by omega]
    refine e.bind ?_
    refine Evt.ite_pos (by rw [arr_size]; omega) ?_
    rw [show (⟨#[45]⟩ : ByteArray) ++ ⟨(Lib.decDigits n.natAbs).toArray⟩ = ⟨(45 :: Lib.decDigits n.natAbs).toArray⟩ from arr_app [45] _]
    exact Evt.pure
  · rw [if_neg hn]
    obtain ⟨e, l⟩ := dec_eq (n.toNat + 1) n.toNat (by omega) (by omega)
    refine ⟨Evt.ite_neg hn ?_, by omega⟩
    rw [show n = ((n.toNat : Nat) : Int) by omega]
    exact e.bind Evt.pure
theorem cl_range {v : Int} (hv : v ≤ 400) : ∀ (c : List Int) (s : Int), cl v s c = true → ∀ n ∈ c, -400 ≤ n ∧ n ≤ 400
  | [], _, _, n, h => absurd h (List.not_mem_nil)
  | m :: r, s, h, n, hm => by
    unfold cl at h
    by_cases c1 : -v ≤ m ∧ m ≤ v
    · rw [if_pos c1] at h
      by_cases c2 : ab m ≤ s
      · rw [if_pos c2] at h; cases h
      · rw [if_neg c2] at h
        rcases List.mem_cons.1 hm with rfl | hm
        · omega
        · exact cl_range hv r _ h n hm
    · rw [if_neg c1] at h; cases h
theorem cl_len {v : Int} (hv : v ≤ 400) : ∀ (c : List Int) (s : Int), 0 ≤ s → s ≤ v → cl v s c = true → (c.length : Int) + s ≤ v
  | [], s, _, hs, _ => by simp; omega
  | m :: r, s, h0, hs, h => by
    unfold cl at h
    by_cases c1 : -v ≤ m ∧ m ≤ v
    · rw [if_pos c1] at h
      by_cases c2 : ab m ≤ s
      · rw [if_pos c2] at h; cases h
      · rw [if_neg c2] at h
        have e := ab_eq (a := m) (by omega) (by omega)
        have hm : ab m ≤ v := by rw [e]; split <;> omega
        have := cl_len hv r (ab m) (by omega) hm h
        rw [List.length_cons]
        omega
    · rw [if_neg c1] at h; cases h
def Lns (l : List (List Int)) : Prop := l.length ≤ 20000 ∧ ∀ c ∈ l, c.length ≤ 400 ∧ ∀ n ∈ c, -400 ≤ n ∧ n ≤ 400
theorem Lns.of {v : Int} (h0 : 0 ≤ v) (hv : v ≤ 400) {l : List (List Int)} (hl : l.length ≤ 20000) (h : l.all (cl v 0) = true) : Lns l := by
  refine ⟨hl, fun c hc => ?_⟩
  have e := List.all_eq_true.1 h c hc
  have := cl_len hv c 0 (by omega) h0 e
  exact ⟨by omega, cl_range hv c 0 e⟩
theorem line_len : ∀ (c : List Int), (∀ n ∈ c, -400 ≤ n ∧ n ≤ 400) → (impl_clausesText.line c).length ≤ 1001 * c.length + 2
  | [], _ => by simp [impl_clausesText.line]
  | n :: r, h => by
    have ih := line_len r (fun m hm => h m (List.mem_cons_of_mem _ hm))
    have hn := h n List.mem_cons_self
    have := (number_eq hn.1 hn.2).2
    rw [line_cons, List.length_append, List.length_cons, List.length_cons]
    omega
theorem text_len : ∀ (l : List (List Int)), (∀ c ∈ l, c.length ≤ 400 ∧ ∀ n ∈ c, -400 ≤ n ∧ n ≤ 400) → (impl_clausesText.text l).length ≤ 401000 * l.length
  | [], _ => by simp [impl_clausesText.text]
  | c :: r, h => by
    have ih := text_len r (fun m hm => h m (List.mem_cons_of_mem _ hm))
    have hn := h c List.mem_cons_self
    have := line_len c hn.2
    rw [text_cons, List.length_append, List.length_cons]
    omega
end Go.Proofs.YtncianokahfkpaaDoor.Pure
end
section
namespace Go.Proofs.YtncianokahfkpaaDoor.Pure
open Go.RowKit Go.Proofs.YtncianokahfkpaaDoor Go.Proofs.YtncianokahfkpaaDoor.Q Go.Proofs.YtncianokahfkpaaDoor.UFnExactFormulaText Go.Proofs.YtncianokahfkpaaDoorW.PrintWords
set_option linter.unusedVariables false
set_option linter.unusedSimpArgs false
theorem all_from {α : Type} {P : α → Nat → Prop} : ∀ (l : List α), (∀ n ∈ l, ∃ K, ∀ k, K ≤ k → P n k) → ∃ K, ∀ k, K ≤ k → ∀ n ∈ l, P n k
  | [], _ => ⟨0, fun _ _ n h => absurd h List.not_mem_nil⟩
  | a :: r, h => by
    obtain ⟨K1, h1⟩ := all_from r (fun n hn => h n (List.mem_cons_of_mem _ hn))
    obtain ⟨K2, h2⟩ := h a List.mem_cons_self
    refine ⟨K1 + K2, fun k hk n hn => ?_⟩
    rcases List.mem_cons.1 hn with rfl | hn
    · exact h2 k (by omega)
    · exact h1 k (by omega) n hn
theorem Evt.ite_ev {α : Type} {c : Nat → Prop} [∀ k, Decidable (c k)] {g h : Nat → Option α} {r : α} (hc : ∃ K, ∀ k, K ≤ k → c k) (hg : Evt g r) : Evt (fun k => if c k then g k else h k) r := by
  obtain ⟨K1, h1⟩ := hc
  obtain ⟨K2, h2⟩ := hg
  refine ⟨K1 + K2, fun k hk => ?_⟩
  simp only [if_pos (h1 k (by omega))]
  exact h2 k (by omega)
theorem dec_itoa {n : Int} (h0 : 0 ≤ n) (h1 : n ≤ 1000000) : Evt (fun k => spec_l01Dec.f k n) ⟨(Lib.itoa n).toArray⟩ ∧ (Lib.itoa n).length ≤ n.toNat + 1 := by
  obtain ⟨e, l⟩ := dec_eq (n.toNat + 1) n.toNat (by omega) (by omega)
  unfold Lib.itoa
  rw [if_neg (by omega)]
  rw [show ((n.toNat : Nat) : Int) = n by omega] at e
  exact ⟨e, l⟩
theorem ftext_both {v : Int} {f : List (List Int)} (hf : LL f) : Both (fun k => spec_FormulaText.f k v f) (fun k => impl_FormulaText.f k v f) := by
  unfold spec_FormulaText.f impl_FormulaText.f
  refine Both.bindl (IsFormula_spec v f hf) (Both.bindr (IsFormula_impl v f hf) ?_)
  by_cases h : fm v f = true
  · obtain ⟨hv, hl, hc⟩ := fm_iff.1 h
    have hL := Lns.of hv.1 hv.2 hl (List.all_eq_true.2 hc)
    have ht := text_len f hL.2
    obtain ⟨d1, n1⟩ := dec_itoa (n := v) hv.1 (by omega)
    obtain ⟨d2, n2⟩ := dec_itoa (n := (f.length : Int)) (by omega) (by omega)
    have hh : (impl_formulaText.head v f.length).length ≤ 30000 := by
      unfold impl_formulaText.head
      rw [join_two]
      simp only [List.length_append, List.length_cons, List.length_nil]
      omega
    refine Both.pl h (Both.pr h (Both.pr ⟨by omega, fun x hx n hn => ?_, by omega⟩ (Both.of (Evt.ite_ev ?_ Evt.pure) Evt.pure)))
    · have := (hL.2 x hx).2 n hn
      omega
    · obtain ⟨K1, q1⟩ := d1
      obtain ⟨K2, q2⟩ := d2
      obtain ⟨K3, q3⟩ := all_from (P := fun x k => ∀ n ∈ x, spec_l20Number.f k n = some ⟨(Lib.itoa n).toArray⟩) f (fun x hx => all_from (P := fun n k => spec_l20Number.f k n = some ⟨(Lib.itoa n).toArray⟩) x (fun n hn => (number_eq ((hL.2 x hx).2 n hn).1 ((hL.2 x hx).2 n hn).2).1))
      refine ⟨K1 + K2 + K3, fun k hk => ⟨q1 k (by omega), q2 k (by omega), q3 k (by omega), by rw [List.length_append]; omega⟩⟩
  · exact Both.nl h (Both.nr h (Both.of Evt.pure Evt.pure))
theorem FnExactFormulaText : laws_FnExactFormulaText_Pure := by
  intro v cs hv hcs
  apply Evt.out
  unfold laws_FnExactFormulaText.f laws_szFormula.f
  have hs := szInt64SS_eq cs 1048576 (by omega) (by omega) hcs.1 (fun c h => (hcs.2 c h).1)
  generalize hb : (if (1048576 : Int) - (cs.length : Int) < 0 then (-1 : Int) else szs (1048576 - (cs.length : Int)) cs) = b at hs
  by_cases hneg : b < 0
  · exact (hs.bind (Evt.ite_pos hneg Evt.pure)).bind (Evt.ite_pos (by omega) Evt.pure)
  · have hL : LL cs := by
      by_cases h0 : (1048576 : Int) - (cs.length : Int) < 0
      · rw [if_pos h0] at hb; omega
      · rw [if_neg h0] at hb
        refine ⟨by omega, fun c hc => ?_⟩
        have := szs_le cs (1048576 - (cs.length : Int)) (by omega) (by rw [hb]; omega) c hc
        omega
    refine (hs.bind (Evt.ite_neg hneg Evt.pure)).bind (Evt.ite_neg hneg ?_)
    obtain ⟨r, b1, b2⟩ := ftext_both (v := v) hL
    refine (toFormula_eq v cs hL).bind (b1.bind (b2.bind ((eqFormula_refl v cs hL).bind ?_)))
    exact Evt.ite_pos ⟨rfl, rfl⟩ Evt.pure
end Go.Proofs.YtncianokahfkpaaDoor.Pure
end
