/- Where a cell stands in a list, as the reference finds it; a list no longer than an int. -/
import Derived.Test.YtcgnnfaemjjljaaDoorVCellS
import Derived.Test.YtcgnnfaemjjljaaDoorQ29
import Derived.Test.YtcgnnfaemjjljaaDoorQ0
import Derived.Test.YtcgnnfaemjjljaaDoorOpn
namespace Go.Proofs.YtcgnnfaemjjljaaDoor.Pure
open Go.RowKit Go.Proofs.YtcgnnfaemjjljaaDoor Go.Proofs.YtcgnnfaemjjljaaDoor.Q Go.Proofs.YtcgnnfaemjjljaaDoorW.PrintWords
set_option linter.unusedVariables false
set_option linter.unusedSimpArgs false

def cc (p : Int × Int) : Cell := ⟨p.1, p.2⟩
theorem cc_inj {p q : Int × Int} (h : cc p = cc q) : p = q := by
  unfold cc at h
  injection h with h1 h2
  exact Prod.ext h1 h2
def ixAt (p : Int × Int) : Nat → List Cell → Int
  | _, [] => -1
  | i, c :: r => if c.f0 = p.1 ∧ c.f1 = p.2 then (i : Int) else ixAt p (i + 1) r
theorem ixAt_mem (p : Int × Int) : ∀ (l : List Cell) (i : Nat), 0 ≤ ixAt p i l ↔ cc p ∈ l
  | [], i => by simp [ixAt]
  | c :: r, i => by
    unfold ixAt
    by_cases h : c.f0 = p.1 ∧ c.f1 = p.2
    · rw [if_pos h]
      have e : c = cc p := by
        cases c
        unfold cc
        simp at h
        rw [h.1, h.2]
      simp [e]
    · rw [if_neg h, ixAt_mem p r (i + 1), List.mem_cons]
      constructor
      · exact fun h2 => Or.inr h2
      · rintro (e | h2)
        · exact absurd (by rw [← e]; exact ⟨rfl, rfl⟩) h
        · exact h2
theorem ixAt_neg (p : Int × Int) : ∀ (l : List Cell) (i : Nat), cc p ∉ l → ixAt p i l = -1
  | [], i, _ => rfl
  | c :: r, i, h => by
    have h1 : ¬ (c.f0 = p.1 ∧ c.f1 = p.2) := fun e => h (by
      have : c = cc p := by
        cases c
        unfold cc
        simp at e
        rw [e.1, e.2]
      rw [← this]; exact List.mem_cons_self)
    unfold ixAt
    rw [if_neg h1]
    exact ixAt_neg p r (i + 1) (fun h2 => h (List.mem_cons_of_mem _ h2))
theorem drop_getD {α : Type} (l : List α) (i : Nat) (z : α) (h : i < l.length) : l.drop i = l.getD i z :: l.drop (i + 1) := by
  rw [List.drop_eq_getElem_cons h]
  simp [List.getD_eq_getElem?_getD, List.getElem?_eq_getElem h]
theorem l02Index_eq (l : List Cell) (x y : Int) (hl : l.length ≤ 9223372036854775807) : Evt (fun k => spec_l02Index.f k l x y) (ixAt (x, y) 0 l) := by
  unfold spec_l02Index.f
  have h := Evt.up (g := fun k i => spec_l02Index.l0 k l (i : Int) x y) (R := fun i => ixAt (x, y) i (l.drop i)) (n := l.length) ?_ ?_ 0 (Nat.zero_le _)
  · exact h
  · refine Evt.step (fun k => rfl) ?_
    simp only [spec_l02Index.l0]
    refine Evt.ite_neg (by omega) ?_
    rw [List.drop_length]
    exact Evt.pure
  · intro i hi ih
    refine Evt.step (fun k => rfl) ?_
    simp only [spec_l02Index.l0, rd_getD]
    refine Evt.ite_pos (by omega) (Evt.ite_pos (by omega) ?_)
    rw [drop_getD l i z42 hi]
    unfold ixAt
    by_cases hc : (l.getD i z42).f0 = x ∧ (l.getD i z42).f1 = y
    · rw [if_pos hc]
      refine Evt.ite_pos (by rw [hc.1, hc.2]; simp) Evt.pure
    · rw [if_neg hc]
      refine Evt.ite_neg (by simpa using hc) ?_
      rw [wrap_succ hi hl]
      exact ih
end Go.Proofs.YtcgnnfaemjjljaaDoor.Pure
