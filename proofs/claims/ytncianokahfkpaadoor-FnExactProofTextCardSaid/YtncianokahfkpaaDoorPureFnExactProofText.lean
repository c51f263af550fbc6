/- The pure side of the law FnExactProofText: parts of this session, put into one text by merge.py. -/
import Derived.Test.YtncianokahfkpaaDoorQ0
import Derived.Test.YtncianokahfkpaaDoorOpn
import Derived.Test.YtncianokahfkpaaDoorQ1
import Derived.Test.YtncianokahfkpaaDoorQ7
import Derived.Test.YtncianokahfkpaaDoorQ2
import Derived.Test.YtncianokahfkpaaDoorQ3
import Derived.Test.YtncianokahfkpaaDoorQ6
import Derived.Test.YtncianokahfkpaaDoorQ8
import Derived.Test.YtncianokahfkpaaDoorQGimplIsFormula
import Derived.Test.YtncianokahfkpaaDoorQ10
import Derived.Test.YtncianokahfkpaaDoorQ5
import Derived.Test.YtncianokahfkpaaDoorQGimplclausesText
import Derived.Test.YtncianokahfkpaaDoorQ4
import Derived.Test.YtncianokahfkpaaDoorQGimplproofCode
import Derived.Test.YtncianokahfkpaaDoorQGimplProofText
import Derived.Test.YtncianokahfkpaaDoorQGlawsFnExactProofText
import Derived.Test.YtncianokahfkpaaDoorUFnExactProofText
section
namespace Go.Proofs.YtncianokahfkpaaDoor.Pure
open Go.RowKit
set_option linter.unusedVariables false
set_option linter.unusedSimpArgs false
def Evt {α : Type} (g : Nat → Option α) (r : α) : Prop := ∃ K, ∀ k, K ≤ k → g k = some r
theorem Evt.out {α : Type} {g : Nat → Option α} {r : α} (h : Evt g r) : ∃ k, g k = some r := by
  obtain ⟨K, h⟩ := h
  exact ⟨K, h K (Nat.le_refl _)⟩
theorem Evt.pure {α : Type} {r : α} : Evt (fun _ => some r) r := ⟨0, fun _ _ => rfl⟩
theorem Evt.of_eq {α : Type} {g g' : Nat → Option α} {r : α} (e : ∀ k, g' k = g k) (h : Evt g r) : Evt g' r := by
  obtain ⟨K, h⟩ := h
  exact ⟨K, fun k hk => (e k).trans (h k hk)⟩
theorem Evt.bind {α β : Type} {g : Nat → Option α} {f : Nat → α → Option β} {a : α} {r : β} (h : Evt g a) (h2 : Evt (fun k => f k a) r) : Evt (fun k => (g k).bind (f k)) r := by
  obtain ⟨K, h⟩ := h
  obtain ⟨K2, h2⟩ := h2
  refine ⟨K + K2, fun k hk => ?_⟩
  show (g k).bind (f k) = some r
  rw [h k (by omega)]
  exact h2 k (by omega)
theorem Evt.step {α : Type} {g h : Nat → Option α} {r : α} (e : ∀ k, g (k + 1) = h k) (hh : Evt h r) : Evt g r := by
  obtain ⟨K, hh⟩ := hh
  refine ⟨K + 1, fun k hk => ?_⟩
  obtain ⟨m, rfl⟩ : ∃ m, k = m + 1 := ⟨k - 1, by omega⟩
  rw [e m]
  exact hh m (by omega)
theorem Evt.ite_pos {α : Type} {c : Prop} [Decidable c] {g h : Nat → Option α} {r : α} (hc : c) (hg : Evt g r) : Evt (fun k => if c then g k else h k) r := Evt.of_eq (fun k => if_pos hc) hg
theorem Evt.ite_neg {α : Type} {c : Prop} [Decidable c] {g h : Nat → Option α} {r : α} (hc : ¬ c) (hg : Evt h r) : Evt (fun k => if c then g k else h k) r := Evt.of_eq (fun k => if_neg hc) hg
theorem Evt.up {α : Type} {g : Nat → Nat → Option α} {R : Nat → α} {n : Nat} (hend : Evt (fun k => g k n) (R n)) (hstep : ∀ i, i < n → Evt (fun k => g k (i + 1)) (R (i + 1)) → Evt (fun k => g k i) (R i)) : ∀ i, i ≤ n → Evt (fun k => g k i) (R i) := by
  intro i hi
  obtain ⟨d, hd⟩ : ∃ d, n = i + d := ⟨n - i, by omega⟩
  induction d generalizing i with
  | zero => have e : i = n := by omega
            rw [e]; exact hend
  | succ d ih => exact hstep i (by omega) (ih (i + 1) (by omega) (by omega))
theorem Evt.upS {α σ : Type} {g : Nat → Nat → σ → Option α} {R : Nat → σ → α} {P : Nat → σ → Prop} {n : Nat} (hend : ∀ s, P n s → Evt (fun k => g k n s) (R n s))
    (hstep : ∀ i s, i < n → P i s → (∀ s', P (i + 1) s' → Evt (fun k => g k (i + 1) s') (R (i + 1) s')) → Evt (fun k => g k i s) (R i s)) : ∀ i s, i ≤ n → P i s → Evt (fun k => g k i s) (R i s) := by
  intro i s hi hp
  obtain ⟨d, hd⟩ : ∃ d, n = i + d := ⟨n - i, by omega⟩
  induction d generalizing i s with
  | zero => have e : i = n := by omega
            rw [e] at hp ⊢; exact hend s hp
  | succ d ih => exact hstep i s (by omega) hp (fun s' hp' => ih (i + 1) s' (by omega) hp' (by omega))
def Both {α : Type} (g h : Nat → Option α) : Prop := ∃ r, Evt g r ∧ Evt h r
theorem Both.of {α : Type} {g h : Nat → Option α} {r : α} (a : Evt g r) (b : Evt h r) : Both g h := ⟨r, a, b⟩
theorem Both.eql {α : Type} {g g' h : Nat → Option α} (e : ∀ k, g k = g' k) (b : Both g' h) : Both g h := by
  obtain ⟨r, a, b⟩ := b
  exact ⟨r, a.of_eq e, b⟩
theorem Both.eqr {α : Type} {g h h' : Nat → Option α} (e : ∀ k, h k = h' k) (b : Both g h') : Both g h := by
  obtain ⟨r, a, b⟩ := b
  exact ⟨r, a, b.of_eq e⟩
theorem Both.bindl {α β : Type} {g : Nat → Option β} {f : Nat → β → Option α} {h : Nat → Option α} {x : β} (e : Evt g x) (b : Both (fun k => f k x) h) : Both (fun k => (g k).bind (f k)) h := by
  obtain ⟨r, a, b⟩ := b
  exact ⟨r, e.bind a, b⟩
theorem Both.bindr {α β : Type} {g : Nat → Option β} {f : Nat → β → Option α} {h : Nat → Option α} {x : β} (e : Evt g x) (b : Both h (fun k => f k x)) : Both h (fun k => (g k).bind (f k)) := by
  obtain ⟨r, a, b⟩ := b
  exact ⟨r, a, e.bind b⟩
theorem Both.pure {α : Type} {r : α} : Both (fun _ => some r) (fun _ => some r) := ⟨r, Evt.pure, Evt.pure⟩
theorem Both.pl {α : Type} {c : Prop} [Decidable c] {g g' h : Nat → Option α} (hc : c) (b : Both g h) : Both (fun k => if c then g k else g' k) h := Both.eql (fun _ => if_pos hc) b
theorem Both.nl {α : Type} {c : Prop} [Decidable c] {g g' h : Nat → Option α} (hc : ¬ c) (b : Both g' h) : Both (fun k => if c then g k else g' k) h := Both.eql (fun _ => if_neg hc) b
theorem Both.pr {α : Type} {c : Prop} [Decidable c] {g h h' : Nat → Option α} (hc : c) (b : Both g h) : Both g (fun k => if c then h k else h' k) := Both.eqr (fun _ => if_pos hc) b
theorem Both.nr {α : Type} {c : Prop} [Decidable c] {g h h' : Nat → Option α} (hc : ¬ c) (b : Both g h') : Both g (fun k => if c then h k else h' k) := Both.eqr (fun _ => if_neg hc) b
theorem wrap_succ {i n : Nat} (h : i < n) (hn : n ≤ 9223372036854775807) : wrap64 ((i : Int) + 1) = ((i + 1 : Nat) : Int) := by
  unfold wrap64
  omega
end Go.Proofs.YtncianokahfkpaaDoor.Pure
end
section
namespace Go.Proofs.YtncianokahfkpaaDoor.Pure
open Go.RowKit Go.Proofs.YtncianokahfkpaaDoor Go.Proofs.YtncianokahfkpaaDoor.Q Go.Proofs.YtncianokahfkpaaDoorW.PrintWords
set_option linter.unusedVariables false
set_option linter.unusedSimpArgs false
theorem w64 {n : Int} (h0 : -9223372036854775808 ≤ n) (h1 : n ≤ 9223372036854775807) : wrap64 n = n := by
  unfold wrap64
  omega
theorem in_eq (a b c : Int) : spec_l01In.f a b c = some (decide (b ≤ a ∧ a ≤ c)) := by
  unfold spec_l01In.f
  by_cases h : a ≥ b
  · rw [if_pos h]; simp; intro _; exact h
  · rw [if_neg h]; simp; intro h2; omega
theorem within_eq (a b c : Int) : impl_within.f a b c = some (decide (b ≤ a ∧ a ≤ c)) := in_eq a b c
end Go.Proofs.YtncianokahfkpaaDoor.Pure
end
section
namespace Go.Proofs.YtncianokahfkpaaDoor.Pure
open Go.RowKit Go.Proofs.YtncianokahfkpaaDoor Go.Proofs.YtncianokahfkpaaDoor.Q Go.Proofs.YtncianokahfkpaaDoorW.PrintWords
set_option linter.unusedVariables false
set_option linter.unusedSimpArgs false
theorem gd {α : Type} (l : List α) (i : Nat) (z : α) (h : i < l.length) : l.getD i z = l[i] := by simp [List.getD_eq_getElem?_getD, List.getElem?_eq_getElem h]
theorem dropD {α : Type} (l : List α) (i : Nat) (z : α) (h : i < l.length) : l.drop i = l.getD i z :: l.drop (i + 1) := by
  rw [List.drop_eq_getElem_cons h, gd l i z h]
theorem rdN (l : List Int) (i : Nat) : rd l (i : Int) = l.getD i 0 := by simp [rd]
theorem rdL1 (l : List (List Int)) (i : Nat) : rd_L1 l (i : Int) = l.getD i [] := by simp [rd_L1]
theorem getD_mem {α : Type} (l : List α) (i : Nat) (z : α) (h : i < l.length) : l.getD i z ∈ l := by rw [gd l i z h]; exact List.getElem_mem h
def ab (a : Int) : Int := mx a (wrap64 (-a))
theorem ab_eq {a : Int} (h0 : -1000000 ≤ a) (h1 : a ≤ 1000000) : ab a = if a < 0 then -a else a := by
  unfold ab mx
  rw [w64 (by omega) (by omega)]
  by_cases h : a < 0
  · rw [if_pos (by omega), if_pos h]
  · rw [if_neg h]
    by_cases h2 : a < -a
    · omega
    · rw [if_neg h2]
theorem variableOf_eq (a : Int) : impl_variableOf.f a = some (ab a) := rfl
theorem l01Abs_eq (a : Int) : spec_l01Abs.f a = some (ab a) := rfl
def cl (v : Int) : Int → List Int → Bool
  | _, [] => true
  | last, n :: r => if -v ≤ n ∧ n ≤ v then (if ab n ≤ last then false else cl v (ab n) r) else false
theorem isClause_eq (l : List Int) (v : Int) (hv0 : 0 ≤ v) (hv : v ≤ 400) (hl : l.length ≤ 1000000000) : Evt (fun k => impl_isClause.f k l v) (cl v 0 l) := by
  unfold impl_isClause.f
  refine Evt.upS (g := fun k i s => impl_isClause.l0 k v s l (l.length : Int) (i : Int)) (R := fun i s => cl v s (l.drop i)) (P := fun _ _ => True) (n := l.length) ?_ ?_ 0 0 (Nat.zero_le _) trivial
  · rintro s _
    refine Evt.step (fun k => rfl) ?_
    simp only [impl_isClause.l0]
    rw [List.drop_length]
    exact Evt.ite_neg (by omega) Evt.pure
  · rintro i s hi _ ih
    refine Evt.step (fun k => rfl) ?_
    have ih' := ih (ab (l.getD i 0)) trivial
    simp only [impl_isClause.l0, rdN, within_eq, variableOf_eq, Option.bind_some]
    refine Evt.ite_pos (by omega) (Evt.ite_pos (by omega) (Evt.ite_pos (by omega) ?_))
    rw [wrap_succ hi (by omega), dropD l i 0 hi, w64 (n := -v) (by omega) (by omega)]
    unfold cl
    by_cases c : -v ≤ l.getD i 0 ∧ l.getD i 0 ≤ v
    · rw [if_pos c]
      refine Evt.ite_pos (by simpa using c) ?_
      by_cases c2 : ab (l.getD i 0) ≤ s
      · rw [if_pos c2]
        exact Evt.ite_pos c2 Evt.pure
      · rw [if_neg c2]
        exact Evt.ite_neg c2 ih'
    · rw [if_neg c]
      exact Evt.ite_neg (by simpa using c) Evt.pure
theorem l20Clause_eq (l : List Int) (v : Int) (hv0 : 0 ≤ v) (hv : v ≤ 400) (hl : l.length ≤ 1000000000) : Evt (fun k => spec_l20Clause.f k l v) (cl v 0 l) := by
  unfold spec_l20Clause.f
  refine Evt.upS (g := fun k i _ => spec_l20Clause.l0 k l v (i : Int)) (R := fun i s => cl v s (l.drop i)) (P := fun i s => 0 ≤ s ∧ (i = 0 → s = 0) ∧ ∀ j, i = j + 1 → s = ab (l.getD j 0)) (n := l.length) ?_ ?_ 0 0 (Nat.zero_le _) ⟨by omega, fun _ => rfl, fun j hj => by omega⟩
  · rintro s _
    refine Evt.step (fun k => rfl) ?_
    simp only [spec_l20Clause.l0]
    rw [List.drop_length]
    exact Evt.ite_neg (by omega) Evt.pure
  · rintro i s hi ⟨hs0, hs1, hs2⟩ ih
    refine Evt.step (fun k => rfl) ?_
    simp only [spec_l20Clause.l0, rdN, in_eq, l01Abs_eq, Option.bind_some]
    refine Evt.ite_pos (by omega) (Evt.ite_pos (by omega) ?_)
    rw [wrap_succ hi (by omega), dropD l i 0 hi, w64 (n := -v) (by omega) (by omega)]
    unfold cl
    generalize hn : l.getD i 0 = n at ih ⊢
    by_cases c : -v ≤ n ∧ n ≤ v
    · have hab := ab_eq (a := n) (by omega) (by omega)
      have ha0 : 0 ≤ ab n := by rw [hab]; split <;> omega
      have hz : ab n ≤ 0 ↔ n = 0 := by rw [hab]; constructor <;> intro h <;> (first | (split at h <;> omega) | (subst h; simp))
      have ih' := ih (ab n) ⟨ha0, fun h => by omega, fun j hj => by obtain rfl : i = j := by omega
                                                                    rw [hn]⟩
      rw [if_pos c]
      by_cases c1 : n = 0
      · have c2 : ab n ≤ s := by have := hz.2 c1; omega
        rw [if_pos c2]
        exact Evt.ite_pos c1 Evt.pure
      · refine Evt.ite_neg c1 (Evt.ite_pos (by simpa using c) ?_)
        by_cases c0 : i = 0
        · have e := hs1 c0
          rw [if_neg (by rw [e]; exact fun h => c1 (hz.1 h))]
          exact Evt.ite_neg (by omega) ih'
        · obtain ⟨j, rfl⟩ : ∃ j, i = j + 1 := ⟨i - 1, by omega⟩
          have e := hs2 j rfl
          refine Evt.ite_pos (by omega) ?_
          have ej : wrap64 (((j + 1 : Nat) : Int) - 1) = (j : Int) := by rw [w64 (by omega) (by omega)]; omega
          rw [ej, rdN, ← e]
          refine Evt.ite_pos (by omega) (Evt.ite_pos (by omega) ?_)
          by_cases c2 : ab n ≤ s
          · rw [if_pos c2]
            exact Evt.ite_pos c2 Evt.pure
          · rw [if_neg c2]
            exact Evt.ite_neg c2 ih'
    · rw [if_neg c]
      by_cases c1 : n = 0
      · exact absurd ⟨by omega, by omega⟩ c
      · exact Evt.ite_neg c1 (Evt.ite_neg (by simpa using c) Evt.pure)
def fm (v : Int) (cs : List (List Int)) : Bool := decide (0 ≤ v ∧ v ≤ 400) && (!decide ((cs.length : Int) > 20000) && cs.all (cl v 0))
theorem fm_iff {v : Int} {cs : List (List Int)} : fm v cs = true ↔ (0 ≤ v ∧ v ≤ 400) ∧ cs.length ≤ 20000 ∧ ∀ c ∈ cs, cl v 0 c = true := by
  unfold fm
  simp [List.all_eq_true]
  omega
def LL (cs : List (List Int)) : Prop := cs.length ≤ 1000000000 ∧ ∀ c ∈ cs, c.length ≤ 1000000000
theorem all_eq (v : Int) (hv0 : 0 ≤ v) (hv : v ≤ 400) : ∀ (cs : List (List Int)), (∀ c ∈ cs, c.length ≤ 1000000000) → Evt (fun k => impl_IsFormula.all k v cs) (cs.all (cl v 0))
  | [], _ => Evt.pure
  | c :: r, h => by
    have ih := all_eq v hv0 hv r (fun d hd => h d (List.mem_cons_of_mem _ hd))
    refine Evt.of_eq (fun k => rfl) ((isClause_eq c v hv0 hv (h c List.mem_cons_self)).bind ?_)
    rw [List.all_cons]
    cases e : cl v 0 c
    · exact Evt.ite_neg (by simp) Evt.pure
    · refine Evt.ite_pos rfl ?_
      rw [Bool.true_and]
      exact ih
theorem IsFormula_impl (v : Int) (cs : List (List Int)) (h : LL cs) : Evt (fun k => impl_IsFormula.f k v cs) (fm v cs) := by
  unfold impl_IsFormula.f fm
  simp only [within_eq, Option.bind_some]
  by_cases c : 0 ≤ v ∧ v ≤ 400
  · refine Evt.ite_pos (by simpa using c) ?_
    by_cases c2 : (cs.length : Int) > 20000
    · simp only [c2, decide_true, Bool.not_true, Bool.false_and, Bool.and_false]
      exact Evt.ite_pos trivial Evt.pure
    · simp only [c, c2, decide_true, decide_false, Bool.not_false, Bool.true_and, and_self]
      exact Evt.ite_neg (by simp) (all_eq v c.1 c.2 cs h.2)
  · simp only [c, decide_false, Bool.false_and]
    exact Evt.ite_neg (by simp) Evt.pure
theorem IsFormula_spec (v : Int) (cs : List (List Int)) (h : LL cs) : Evt (fun k => spec_IsFormula.f k v cs) (fm v cs) := by
  unfold spec_IsFormula.f fm
  simp only [in_eq, Option.bind_some]
  have hl := h.1
  by_cases c : 0 ≤ v ∧ v ≤ 400
  · refine Evt.ite_pos (by simpa using c) (Evt.step (fun k => rfl) ?_)
    simp only [spec_IsFormula.j0]
    by_cases c2 : (cs.length : Int) > 20000
    · simp only [c2, decide_true, Bool.not_true, Bool.false_and, Bool.and_false]
      exact Evt.ite_pos (by simp) Evt.pure
    · simp only [c, c2, decide_true, decide_false, Bool.not_false, Bool.true_and, and_self]
      refine Evt.ite_neg (by simp) ?_
      refine Evt.up (g := fun k i => spec_IsFormula.l0 k (i : Int) v cs) (R := fun i => (cs.drop i).all (cl v 0)) (n := cs.length) ?_ ?_ 0 (Nat.zero_le _)
      · refine Evt.step (fun k => rfl) ?_
        simp only [spec_IsFormula.l0]
        rw [List.drop_length]
        exact Evt.ite_neg (by omega) Evt.pure
      · intro i hi ih
        refine Evt.step (fun k => rfl) ?_
        simp only [spec_IsFormula.l0, rdL1]
        refine Evt.ite_pos (by omega) (Evt.ite_pos (by omega) ?_)
        refine (l20Clause_eq (cs.getD i []) v c.1 c.2 (h.2 _ (getD_mem cs i [] hi))).bind ?_
        rw [wrap_succ hi (by omega), dropD cs i [] hi, List.all_cons]
        cases e : cl v 0 (cs.getD i [])
        · exact Evt.ite_neg (by simp) Evt.pure
        · refine Evt.ite_pos rfl ?_
          rw [Bool.true_and]
          exact ih
  · simp only [c, decide_false, Bool.false_and]
    refine Evt.ite_neg (by simp) (Evt.step (fun k => rfl) ?_)
    simp only [spec_IsFormula.j0]
    exact Evt.ite_pos (by simp) Evt.pure
def szs : Int → List (List Int) → Int
  | t, [] => t
  | t, c :: r => if t - c.length < 0 then -1 else szs (t - c.length) r
theorem szs_le : ∀ (l : List (List Int)) (t : Int), 0 ≤ t → 0 ≤ szs t l → ∀ c ∈ l, (c.length : Int) ≤ t
  | [], _, _, _ => fun _ h => by cases h
  | c :: r, t, h0, h => by
    unfold szs at h
    by_cases h1 : t - c.length < 0
    · rw [if_pos h1] at h; omega
    · rw [if_neg h1] at h
      have ih := szs_le r _ (by omega) h
      intro d hd
      rcases List.mem_cons.1 hd with rfl | hd
      · omega
      · have := ih d hd; omega
theorem szInt64SS_eq (cs : List (List Int)) (a : Int) (ha0 : 0 ≤ a) (ha : a ≤ 1000000000) (hl : cs.length ≤ maxLen) (hc : ∀ c ∈ cs, c.length ≤ maxLen) : Evt (fun k => laws_szInt64SS.f k cs a) (if a - cs.length < 0 then -1 else szs (a - cs.length) cs) := by
  unfold maxLen at hl hc
  unfold laws_szInt64SS.f
  rw [w64 (by omega) (by omega)]
  by_cases h : a - (cs.length : Int) < 0
  · rw [if_pos h]
    exact Evt.ite_pos h Evt.pure
  · rw [if_neg h]
    refine Evt.ite_neg h ?_
    refine Evt.upS (g := fun k i t => laws_szInt64SS.l0 k cs t (i : Int)) (R := fun i t => szs t (cs.drop i)) (P := fun _ t => 0 ≤ t ∧ t ≤ 1000000000) (n := cs.length) ?_ ?_ 0 _ (Nat.zero_le _) ⟨by omega, by omega⟩
    · rintro t _
      refine Evt.step (fun k => rfl) ?_
      simp only [laws_szInt64SS.l0]
      rw [List.drop_length]
      exact Evt.ite_neg (by omega) Evt.pure
    · rintro i t hi ⟨ht0, ht1⟩ ih
      have hci := hc _ (getD_mem cs i [] hi)
      refine Evt.step (fun k => rfl) ?_
      have e : laws_szInt64S.f (cs.getD i []) t = some (if t - (cs.getD i []).length < 0 then -1 else t - (cs.getD i []).length) := by
        unfold laws_szInt64S.f
        rw [w64 (by omega) (by omega)]
        split <;> rfl
      simp only [laws_szInt64SS.l0, rdL1, e, Option.bind_some]
      refine Evt.ite_pos (by omega) (Evt.ite_pos (by omega) ?_)
      rw [wrap_succ hi (by omega), dropD cs i [] hi]
      unfold szs
      by_cases h2 : t - ((cs.getD i []).length : Int) < 0
      · rw [if_pos h2, if_pos h2]
        exact Evt.ite_pos (by omega) Evt.pure
      · rw [if_neg h2, if_neg h2]
        exact Evt.ite_neg h2 (ih _ ⟨by omega, by omega⟩)
theorem setTake {α : Type} (l acc : List α) (i : Nat) (hi : i < l.length) (hl : acc.length = l.length) (h : acc.take i = l.take i) : (acc.set i l[i]).take (i + 1) = l.take (i + 1) := by
  apply List.ext_getElem?
  intro j
  have h3 := congrArg (fun z => z[j]?) h
  simp only [List.getElem?_take] at h3 ⊢
  by_cases hj : j < i
  · rw [if_pos (by omega)] at h3 ⊢
    rw [if_pos (by omega)] at h3 ⊢
    rw [List.getElem?_set_ne (by omega)]
    exact h3
  · by_cases hj2 : j = i
    · subst hj2
      rw [if_pos (by omega), if_pos (by omega), List.getElem?_set_self (by omega), List.getElem?_eq_getElem hi]
    · rw [if_neg (by omega), if_neg (by omega)]
theorem toInt64S_eq (l : List Int) (hl : l.length ≤ 1000000000) : Evt (fun k => laws_toInt64S.f k l) l := by
  unfold laws_toInt64S.f
  refine Evt.ite_pos (by omega) (Evt.ite_pos (by omega) ?_)
  refine Evt.upS (g := fun k i acc => laws_toInt64S.l0 k l acc (i : Int)) (R := fun _ _ => l) (P := fun i acc => acc.length = l.length ∧ acc.take i = l.take i) (n := l.length) ?_ ?_ 0 _ (Nat.zero_le _) ⟨by simp, by simp⟩
  · rintro acc ⟨h1, h2⟩
    refine Evt.step (fun k => rfl) ?_
    simp only [laws_toInt64S.l0]
    refine Evt.ite_neg (by omega) ?_
    rw [List.take_of_length_le (by omega), List.take_length] at h2
    rw [h2]
    exact Evt.pure
  · rintro i acc hi ⟨h1, h2⟩ ih
    refine Evt.step (fun k => rfl) ?_
    simp only [laws_toInt64S.l0, rdN]
    refine Evt.ite_pos (by omega) (Evt.ite_pos (by omega) (Evt.ite_pos (by omega) ?_))
    rw [wrap_succ hi (by omega), Int.toNat_natCast, gd l i 0 hi]
    exact ih _ ⟨by simpa using h1, setTake l acc i hi h1 h2⟩
theorem toInt64SS_eq (l : List (List Int)) (h : LL l) : Evt (fun k => laws_toInt64SS.f k l) l := by
  have hl := h.1
  unfold laws_toInt64SS.f
  refine Evt.ite_pos (by omega) (Evt.ite_pos (by omega) ?_)
  refine Evt.upS (g := fun k i acc => laws_toInt64SS.l0 k l acc (i : Int)) (R := fun _ _ => l) (P := fun i acc => acc.length = l.length ∧ acc.take i = l.take i) (n := l.length) ?_ ?_ 0 _ (Nat.zero_le _) ⟨by simp, by simp⟩
  · rintro acc ⟨h1, h2⟩
    refine Evt.step (fun k => rfl) ?_
    simp only [laws_toInt64SS.l0]
    refine Evt.ite_neg (by omega) ?_
    rw [List.take_of_length_le (by omega), List.take_length] at h2
    rw [h2]
    exact Evt.pure
  · rintro i acc hi ⟨h1, h2⟩ ih
    refine Evt.step (fun k => rfl) ?_
    simp only [laws_toInt64SS.l0, rdL1]
    refine Evt.ite_pos (by omega) (Evt.ite_pos (by omega) ?_)
    refine (toInt64S_eq _ (h.2 _ (getD_mem l i [] hi))).bind (Evt.ite_pos (by omega) ?_)
    rw [wrap_succ hi (by omega), Int.toNat_natCast, gd l i [] hi]
    exact ih _ ⟨by simpa using h1, setTake l acc i hi h1 h2⟩
theorem eqInt64S_refl (l : List Int) (hl : l.length ≤ 1000000000) : Evt (fun k => laws_eqInt64S.f k l l) true := by
  unfold laws_eqInt64S.f
  refine Evt.ite_pos rfl ?_
  refine Evt.up (g := fun k i => laws_eqInt64S.l0 k l l (i : Int)) (R := fun _ => true) (n := l.length) ?_ ?_ 0 (Nat.zero_le _)
  · refine Evt.step (fun k => rfl) ?_
    simp only [laws_eqInt64S.l0]
    exact Evt.ite_neg (by omega) Evt.pure
  · intro i hi ih
    refine Evt.step (fun k => rfl) ?_
    simp only [laws_eqInt64S.l0]
    refine Evt.ite_pos (by omega) (Evt.ite_pos (by omega) (Evt.ite_pos (by omega) (Evt.ite_pos (by simp) ?_)))
    rw [wrap_succ hi (by omega)]
    exact ih
theorem eqInt64SS_refl (l : List (List Int)) (h : LL l) : Evt (fun k => laws_eqInt64SS.f k l l) true := by
  have hl := h.1
  unfold laws_eqInt64SS.f
  refine Evt.ite_pos rfl ?_
  refine Evt.up (g := fun k i => laws_eqInt64SS.l0 k l l (i : Int)) (R := fun _ => true) (n := l.length) ?_ ?_ 0 (Nat.zero_le _)
  · refine Evt.step (fun k => rfl) ?_
    simp only [laws_eqInt64SS.l0]
    exact Evt.ite_neg (by omega) Evt.pure
  · intro i hi ih
    refine Evt.step (fun k => rfl) ?_
    simp only [laws_eqInt64SS.l0, rdL1]
    refine Evt.ite_pos (by omega) (Evt.ite_pos (by omega) (Evt.ite_pos (by omega) ?_))
    refine (eqInt64S_refl _ (h.2 _ (getD_mem l i [] hi))).bind (Evt.ite_pos rfl ?_)
    rw [wrap_succ hi (by omega)]
    exact ih
theorem toFormula_eq (v : Int) (l : List (List Int)) (h : LL l) : Evt (fun k => laws_toFormula.f k v l) (v, l) := by
  unfold laws_toFormula.f
  exact (toInt64SS_eq l h).bind Evt.pure
theorem eqFormula_refl (v : Int) (l : List (List Int)) (h : LL l) : Evt (fun k => laws_eqFormula.f k v l v l) true := by
  unfold laws_eqFormula.f
  exact Evt.ite_pos rfl ((eqInt64SS_refl l h).bind (Evt.ite_pos rfl Evt.pure))
end Go.Proofs.YtncianokahfkpaaDoor.Pure
end
section
namespace Go.Proofs.YtncianokahfkpaaDoor.Pure
open Go.RowKit Go.Proofs.YtncianokahfkpaaDoor Go.Proofs.YtncianokahfkpaaDoor.Q Go.Proofs.YtncianokahfkpaaDoorW.PrintWords
set_option linter.unusedVariables false
set_option linter.unusedSimpArgs false
def nb (l : List UInt8) : List Int := l.map (fun b => (b.toNat : Int))
theorem nb_app (a b : List UInt8) : nb a ++ nb b = nb (a ++ b) := by simp [nb]
theorem bytesOf_arr (l : List UInt8) : bytesOf (⟨l.toArray⟩ : ByteArray) = nb l := rfl
theorem nb_len (l : List UInt8) : (nb l).length = l.length := by simp [nb]
theorem str_nb (l : List UInt8) : strOfNums (nb l) = ⟨l.toArray⟩ := by
  unfold strOfNums nb
  congr 2
  rw [List.map_map]
  conv => rhs; rw [← List.map_id l]
  apply List.map_congr_left
  intro b _
  simp
theorem arr_app (a b : List UInt8) : (⟨a.toArray⟩ : ByteArray) ++ ⟨b.toArray⟩ = ⟨(a ++ b).toArray⟩ := by
  apply ByteArray.ext
  simp
theorem arr_size (a : List UInt8) : (⟨a.toArray⟩ : ByteArray).size = a.length := by
  show a.toArray.size = _
  simp
theorem dig_eq (u : Nat) (h : u < 10) : strOfNums [wrap64 (48 + (u : Int)) % 256] = ⟨[UInt8.ofNat (48 + u)].toArray⟩ := by
  unfold strOfNums
  rw [w64 (by omega) (by omega)]
  have e : (48 + (u : Int)) % 256 = ((48 + u : Nat) : Int) := by omega
  rw [e]
  show (⟨[UInt8.ofNat (((48 + u : Nat) : Int).toNat)].toArray⟩ : ByteArray) = _
  rw [Int.toNat_natCast]
theorem dec_eq : ∀ (n u : Nat), u < n → u ≤ 1000000000 → Evt (fun k => spec_l01Dec.f k (u : Int)) ⟨(Lib.decDigits u).toArray⟩ ∧ (Lib.decDigits u).length ≤ u + 1
  | 0, u, h, _ => absurd h (Nat.not_lt_zero u)
  | n + 1, u, h, hb => by
    rw [Lib.decDigits]
    by_cases h10 : u < 10
    · rw [dif_pos h10]
      refine ⟨?_, by simp⟩
      refine Evt.step (fun k => rfl) ?_
      simp only [spec_l01Dec.f]
      refine Evt.ite_pos (by omega) ?_
      rw [dig_eq u h10]
      exact Evt.pure
    · rw [dif_neg h10]
      obtain ⟨ih, il⟩ := dec_eq n (u / 10) (by omega) (by omega)
      refine ⟨?_, by rw [List.length_append, List.length_singleton]; omega⟩
      refine Evt.step (fun k => rfl) ?_
      simp only [spec_l01Dec.f]
      refine Evt.ite_neg (by omega) ?_
      have e1 : wrap64 (Int.tdiv (u : Int) 10) = ((u / 10 : Nat) : Int) := by
        rw [Int.tdiv_eq_ediv_of_nonneg (by omega), w64 (by omega) (by omega)]; omega
      have e2 : Int.tmod (u : Int) 10 = ((u % 10 : Nat) : Int) := by
        rw [Int.tmod_eq_emod_of_nonneg (by omega)]; omega
      rw [e1, e2]
      refine ih.bind ?_
      simp only [Option.bind_some]
      rw [dig_eq (u % 10) (by omega), arr_app]
      refine Evt.ite_pos ?_ Evt.pure
      rw [arr_size, arr_size, List.length_singleton]
      omega
theorem number_eq {n : Int} (h0 : -400 ≤ n) (h1 : n ≤ 400) : Evt (fun k => spec_l20Number.f k n) ⟨(Lib.itoa n).toArray⟩ ∧ (Lib.itoa n).length ≤ 1000 := by
  unfold spec_l20Number.f Lib.itoa
  by_cases hn : n < 0
  · rw [if_pos hn]
    obtain ⟨e, l⟩ := dec_eq (n.natAbs + 1) n.natAbs (by omega) (by omega)
    refine ⟨Evt.ite_pos hn ?_, by rw [List.length_cons]; omega⟩
    rw [w64 (by omega) (by omega), show (-n) = ((n.natAbs : Nat) : Int) by omega]
    refine e.bind ?_
    refine Evt.ite_pos (by rw [arr_size]; omega) ?_
    rw [show (⟨#[45]⟩ : ByteArray) ++ ⟨(Lib.decDigits n.natAbs).toArray⟩ = ⟨(45 :: Lib.decDigits n.natAbs).toArray⟩ from arr_app [45] _]
    exact Evt.pure
  · rw [if_neg hn]
    obtain ⟨e, l⟩ := dec_eq (n.toNat + 1) n.toNat (by omega) (by omega)
    refine ⟨Evt.ite_neg hn ?_, by omega⟩
    rw [show n = ((n.toNat : Nat) : Int) by omega]
    exact e.bind Evt.pure
theorem szs_top : ∀ (l : List (List Int)) (t : Int), 0 ≤ t → szs t l ≤ t
  | [], t, _ => by unfold szs; omega
  | c :: r, t, h0 => by
    unfold szs
    by_cases h1 : t - c.length < 0
    · rw [if_pos h1]; omega
    · rw [if_neg h1]
      have := szs_top r (t - c.length) (by omega)
      omega
theorem cl_range {v : Int} (hv : v ≤ 400) : ∀ (c : List Int) (s : Int), cl v s c = true → ∀ n ∈ c, -400 ≤ n ∧ n ≤ 400
  | [], _, _, n, h => absurd h (List.not_mem_nil)
  | m :: r, s, h, n, hm => by
    unfold cl at h
    by_cases c1 : -v ≤ m ∧ m ≤ v
    · rw [if_pos c1] at h
      by_cases c2 : ab m ≤ s
      · rw [if_pos c2] at h; cases h
      · rw [if_neg c2] at h
        rcases List.mem_cons.1 hm with rfl | hm
        · omega
        · exact cl_range hv r _ h n hm
    · rw [if_neg c1] at h; cases h
theorem cl_len {v : Int} (hv : v ≤ 400) : ∀ (c : List Int) (s : Int), 0 ≤ s → s ≤ v → cl v s c = true → (c.length : Int) + s ≤ v
  | [], s, _, hs, _ => by simp; omega
  | m :: r, s, h0, hs, h => by
    unfold cl at h
    by_cases c1 : -v ≤ m ∧ m ≤ v
    · rw [if_pos c1] at h
      by_cases c2 : ab m ≤ s
      · rw [if_pos c2] at h; cases h
      · rw [if_neg c2] at h
        have e := ab_eq (a := m) (by omega) (by omega)
        have hm : ab m ≤ v := by rw [e]; split <;> omega
        have := cl_len hv r (ab m) (by omega) hm h
        rw [List.length_cons]
        omega
    · rw [if_neg c1] at h; cases h
def Lns (l : List (List Int)) : Prop := l.length ≤ 20000 ∧ ∀ c ∈ l, c.length ≤ 400 ∧ ∀ n ∈ c, -400 ≤ n ∧ n ≤ 400
theorem Lns.of {v : Int} (h0 : 0 ≤ v) (hv : v ≤ 400) {l : List (List Int)} (hl : l.length ≤ 20000) (h : l.all (cl v 0) = true) : Lns l := by
  refine ⟨hl, fun c hc => ?_⟩
  have e := List.all_eq_true.1 h c hc
  have := cl_len hv c 0 (by omega) h0 e
  exact ⟨by omega, cl_range hv c 0 e⟩
theorem line_len : ∀ (c : List Int), (∀ n ∈ c, -400 ≤ n ∧ n ≤ 400) → (impl_clausesText.line c).length ≤ 1001 * c.length + 2
  | [], _ => by simp [impl_clausesText.line]
  | n :: r, h => by
    have ih := line_len r (fun m hm => h m (List.mem_cons_of_mem _ hm))
    have hn := h n List.mem_cons_self
    have := (number_eq hn.1 hn.2).2
    rw [line_cons, List.length_append, List.length_cons, List.length_cons]
    omega
theorem text_len : ∀ (l : List (List Int)), (∀ c ∈ l, c.length ≤ 400 ∧ ∀ n ∈ c, -400 ≤ n ∧ n ≤ 400) → (impl_clausesText.text l).length ≤ 401000 * l.length
  | [], _ => by simp [impl_clausesText.text]
  | c :: r, h => by
    have ih := text_len r (fun m hm => h m (List.mem_cons_of_mem _ hm))
    have hn := h c List.mem_cons_self
    have := line_len c hn.2
    rw [text_cons, List.length_append, List.length_cons]
    omega
end Go.Proofs.YtncianokahfkpaaDoor.Pure
end
section
namespace Go.Proofs.YtncianokahfkpaaDoor.Pure
open Go.RowKit Go.Proofs.YtncianokahfkpaaDoor Go.Proofs.YtncianokahfkpaaDoor.Q Go.Proofs.YtncianokahfkpaaDoor.UFnExactProofText Go.Proofs.YtncianokahfkpaaDoorW.PrintWords
set_option linter.unusedVariables false
set_option linter.unusedSimpArgs false
def pcode (v : Int) (f p : List (List Int)) : Int := if fm v f = true then (if (p.length : Int) > 3000 then 2 else if p.all (cl v 0) = true then 0 else 2) else 1
theorem proofCode_eq (v : Int) (f p : List (List Int)) (hf : LL f) (hp : LL p) : Evt (fun k => impl_proofCode.f k v f p) (pcode v f p) := by
  unfold impl_proofCode.f pcode
  refine (IsFormula_impl v f hf).bind ?_
  by_cases h : fm v f = true
  · have hv := (fm_iff.1 h).1
    refine Evt.ite_pos h ?_
    rw [if_pos h]
    by_cases hl : (p.length : Int) > 3000
    · rw [if_pos hl]
      exact Evt.ite_pos hl Evt.pure
    · rw [if_neg hl]
      refine Evt.ite_neg hl ((all_eq v hv.1 hv.2 p hp.2).bind ?_)
      by_cases ha : p.all (cl v 0) = true
      · rw [show (if p.all (cl v 0) = true then (0 : Int) else 2) = 0 from if_pos ha]
        exact Evt.ite_pos ha Evt.pure
      · rw [show (if p.all (cl v 0) = true then (0 : Int) else 2) = 2 from if_neg ha]
        exact Evt.ite_neg ha Evt.pure
  · rw [if_neg h]
    exact Evt.ite_neg h Evt.pure
theorem l22Code_eq (v : Int) (f p : List (List Int)) (hf : LL f) (hp : LL p) : Evt (fun k => spec_l22Code.f k v f p) (pcode v f p) := by
  unfold spec_l22Code.f pcode
  refine (IsFormula_spec v f hf).bind ?_
  have hpl := hp.1
  by_cases h : fm v f = true
  · have hv := (fm_iff.1 h).1
    refine Evt.ite_pos h ?_
    rw [if_pos h]
    have key := Evt.up (g := fun k i => spec_l22Code.l0 k p (i : Int) v f) (R := fun i => if (p.drop i).all (cl v 0) = true then (if (p.length : Int) > 3000 then 2 else 0) else 2) (n := p.length) ?_ ?_ 0 (Nat.zero_le _)
    · simp only [List.drop_zero] at key
      rw [show (if (p.length : Int) > 3000 then (2 : Int) else if p.all (cl v 0) = true then 0 else 2) = (if p.all (cl v 0) = true then (if (p.length : Int) > 3000 then 2 else 0) else 2) by split <;> split <;> rfl]
      exact key
    · refine Evt.step (fun k => rfl) ?_
      simp only [spec_l22Code.l0]
      rw [List.drop_length]
      refine Evt.ite_neg (by omega) ?_
      rw [show (if ([] : List (List Int)).all (cl v 0) = true then (if (p.length : Int) > 3000 then (2 : Int) else 0) else 2) = if (p.length : Int) > 3000 then 2 else 0 from if_pos rfl]
      by_cases hl : (p.length : Int) > 3000
      · rw [show (if (p.length : Int) > 3000 then (2 : Int) else 0) = 2 from if_pos hl]; exact Evt.ite_pos hl Evt.pure
      · rw [show (if (p.length : Int) > 3000 then (2 : Int) else 0) = 0 from if_neg hl]; exact Evt.ite_neg hl Evt.pure
    · intro i hi ih
      refine Evt.step (fun k => rfl) ?_
      simp only [spec_l22Code.l0, rdL1]
      refine Evt.ite_pos (by omega) (Evt.ite_pos (by omega) ?_)
      refine (l20Clause_eq (p.getD i []) v hv.1 hv.2 (hp.2 _ (getD_mem p i [] hi))).bind ?_
      rw [wrap_succ hi (by omega), dropD p i [] hi, List.all_cons]
      cases e : cl v 0 (p.getD i [])
      · rw [Bool.false_and, if_neg (by simp)]
        exact Evt.ite_neg (by simp) Evt.pure
      · refine Evt.ite_pos rfl ?_
        rw [Bool.true_and]
        exact ih
  · rw [if_neg h]
    exact Evt.ite_neg h Evt.pure
theorem specText_eq (l : List (List Int)) (h : Lns l) (h2 : l.length ≤ 3000) : Evt (fun k => spec_ProofText.l0 k l [] 0) (⟨(impl_clausesText.text l).toArray⟩, 0) := by
  have hlen := h.1
  have key := Evt.upS (g := fun k i (s : List UInt8) => spec_ProofText.l0 k l (nb s) (i : Int)) (R := fun i s => (⟨(s ++ impl_clausesText.text (l.drop i)).toArray⟩, (0 : Int))) (P := fun i s => s.length ≤ 401000 * i) (n := l.length) ?_ ?_ 0 [] (Nat.zero_le _) (by simp)
  · simpa [nb] using key
  · intro s hs
    refine Evt.step (fun k => rfl) ?_
    simp only [spec_ProofText.l0]
    rw [List.drop_length, show impl_clausesText.text [] = [] from rfl, List.append_nil, str_nb]
    exact Evt.ite_neg (by omega) Evt.pure
  · intro i s hi hs ih
    refine Evt.step (fun k => rfl) ?_
    simp only [spec_ProofText.l0]
    refine Evt.ite_pos (by omega) ?_
    have hc := h.2 _ (getD_mem l i [] hi)
    rw [dropD l i [] hi, text_cons]
    have key2 := Evt.upS (g := fun k j (t : List UInt8) => spec_ProofText.l1 k l (nb t) (i : Int) (j : Int)) (R := fun j t => (⟨(t ++ (impl_clausesText.line ((l.getD i []).drop j) ++ impl_clausesText.text (l.drop (i + 1)))).toArray⟩, (0 : Int))) (P := fun j t => t.length ≤ 401000 * i + 1001 * j) (n := (l.getD i []).length) ?_ ?_ 0 s (Nat.zero_le _) (by omega)
    · simpa using key2
    · intro t ht
      refine Evt.step (fun k => rfl) ?_
      simp only [spec_ProofText.l1, rdL1]
      refine Evt.ite_pos (by omega) (Evt.ite_pos (by omega) (Evt.ite_neg (by omega) (Evt.ite_pos (by rw [nb_len]; omega) ?_)))
      rw [wrap_succ hi (by omega), List.drop_length, show impl_clausesText.line [] = [48, 10] from rfl, show bytesOf (⟨#[48, 10]⟩ : ByteArray) = nb [48, 10] from rfl, nb_app, ← List.append_assoc]
      exact ih _ (by rw [List.length_append]; simp only [List.length_cons, List.length_nil]; omega)
    · intro j t hj ht ih2
      refine Evt.step (fun k => rfl) ?_
      simp only [spec_ProofText.l1, rdL1, rdN]
      have hn := hc.2 _ (getD_mem (l.getD i []) j 0 hj)
      obtain ⟨e, el⟩ := number_eq hn.1 hn.2
      refine Evt.ite_pos (by omega) (Evt.ite_pos (by omega) (Evt.ite_pos (by omega) (Evt.ite_pos (by omega) (e.bind ?_))))
      rw [show (⟨(Lib.itoa ((l.getD i []).getD j 0)).toArray⟩ : ByteArray) ++ ⟨#[32]⟩ = ⟨(Lib.itoa ((l.getD i []).getD j 0) ++ [32]).toArray⟩ from arr_app _ [32]]
      refine Evt.ite_pos (by rw [arr_size]; omega) (Evt.ite_pos (by rw [arr_size, nb_len, List.length_append, List.length_singleton]; omega) ?_)
      rw [bytesOf_arr, nb_app, wrap_succ hj (by omega), dropD (l.getD i []) j 0 hj, line_cons]
      have := ih2 (t ++ (Lib.itoa ((l.getD i []).getD j 0) ++ [32])) (by rw [List.length_append, List.length_append, List.length_singleton]; omega)
      simpa using this
theorem text_both {v : Int} {f p : List (List Int)} (hf : LL f) (hp : LL p) : Both (fun k => spec_ProofText.f k v f p) (fun k => impl_ProofText.f k v f p) := by
  unfold spec_ProofText.f impl_ProofText.f
  refine Both.bindl (l22Code_eq v f p hf hp) (Both.bindr (proofCode_eq v f p hf hp) ?_)
  by_cases h : pcode v f p = 0
  · have hx := h
    unfold pcode at hx
    by_cases h1 : fm v f = true
    · rw [if_pos h1] at hx
      by_cases h2 : (p.length : Int) > 3000
      · rw [if_pos h2] at hx; cases hx
      · rw [if_neg h2] at hx
        by_cases h3 : p.all (cl v 0) = true
        · have hv := (fm_iff.1 h1).1
          have hL := Lns.of hv.1 hv.2 (l := p) (by omega) h3
          have ht := text_len p hL.2
          refine Both.pl h (Both.pr h (Both.pr ⟨fun x hx n hn => ?_, by omega⟩ (Both.of (specText_eq p hL (by omega)) Evt.pure)))
          have := (hL.2 x hx).2 n hn
          omega
        · rw [if_neg h3] at hx; cases hx
    · rw [if_neg h1] at hx; cases hx
  · exact Both.nl h (Both.nr h (Both.of Evt.pure Evt.pure))
theorem FnExactProofText : laws_FnExactProofText_Pure := by
  intro v cs ps hv hcs hps
  apply Evt.out
  unfold laws_FnExactProofText.f laws_szFormula.f
  have hs := szInt64SS_eq cs 1048576 (by omega) (by omega) hcs.1 (fun c h => (hcs.2 c h).1)
  generalize hb : (if (1048576 : Int) - (cs.length : Int) < 0 then (-1 : Int) else szs (1048576 - (cs.length : Int)) cs) = b at hs
  by_cases hneg : b < 0
  · exact (hs.bind (Evt.ite_pos hneg Evt.pure)).bind (Evt.ite_pos (by omega) Evt.pure)
  · have hL : LL cs := by
      by_cases h0 : (1048576 : Int) - (cs.length : Int) < 0
      · rw [if_pos h0] at hb; omega
      · rw [if_neg h0] at hb
        refine ⟨by omega, fun c hc => ?_⟩
        have := szs_le cs (1048576 - (cs.length : Int)) (by omega) (by rw [hb]; omega) c hc
        omega
    have hb1 : b ≤ 1048576 := by
      by_cases h0 : (1048576 : Int) - (cs.length : Int) < 0
      · rw [if_pos h0] at hb; omega
      · rw [if_neg h0] at hb
        have := szs_top cs (1048576 - (cs.length : Int)) (by omega)
        omega
    refine (hs.bind (Evt.ite_neg hneg Evt.pure)).bind (Evt.ite_neg hneg ?_)
    have hs2 := szInt64SS_eq ps b (by omega) (by omega) hps.1 (fun c h => (hps.2 c h).1)
    generalize hb2 : (if b - (ps.length : Int) < 0 then (-1 : Int) else szs (b - (ps.length : Int)) ps) = b2 at hs2
    refine hs2.bind ?_
    by_cases hneg2 : b2 < 0
    · exact Evt.ite_pos hneg2 Evt.pure
    · have hP : LL ps := by
        by_cases h0 : b - (ps.length : Int) < 0
        · rw [if_pos h0] at hb2; omega
        · rw [if_neg h0] at hb2
          refine ⟨by omega, fun c hc => ?_⟩
          have := szs_le ps (b - (ps.length : Int)) (by omega) (by rw [hb2]; omega) c hc
          omega
      refine Evt.ite_neg hneg2 ?_
      obtain ⟨r, b1, b2⟩ := text_both (v := v) hL hP
      refine (toFormula_eq v cs hL).bind ((toInt64SS_eq ps hP).bind (b1.bind (b2.bind ((eqFormula_refl v cs hL).bind ((eqInt64SS_refl ps hP).bind ?_)))))
      exact Evt.ite_pos ⟨rfl, rfl, rfl⟩ Evt.pure
end Go.Proofs.YtncianokahfkpaaDoor.Pure
end
