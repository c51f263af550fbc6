/- Cubes: solids, the program's and the reference's check; where a cube stands; connectedness; conditions stand with each. -/
import Derived.Test.YtjgnlakgojookaaVEvt
import Derived.Test.YtjgnlakgojookaaVNum1
import Derived.Test.YtjgnlakgojookaaQ2
import Derived.Test.YtjgnlakgojookaaQ3
import Derived.Test.YtjgnlakgojookaaQ4
import Derived.Test.YtjgnlakgojookaaQ5
import Derived.Test.YtjgnlakgojookaaQGspecl09Connected
import Derived.Test.YtjgnlakgojookaaQ9
import Derived.Test.YtjgnlakgojookaaQ10
import Derived.Test.YtjgnlakgojookaaQ11
import Derived.Test.YtjgnlakgojookaaQ12
import Derived.Test.YtjgnlakgojookaaQ13
import Derived.Test.YtjgnlakgojookaaQGimplnewFrame
import Derived.Test.YtjgnlakgojookaaQGimplframetouch
import Derived.Test.YtjgnlakgojookaaQ0
import Derived.Test.YtjgnlakgojookaaOpn
namespace Go.Proofs.Ytjgnlakgojookaa.Pure
open Go.RowKit Go.Proofs.Ytjgnlakgojookaa Go.Proofs.Ytjgnlakgojookaa.Q Go.Proofs.YtjgnlakgojookaaW.PrintWords
set_option linter.unusedVariables false
set_option linter.unusedSimpArgs false

abbrev Cube := S71
theorem qgd {α : Type} (l : List α) (i : Nat) (z : α) (h : i < l.length) : l.getD i z = l[i] := by simp [List.getD_eq_getElem?_getD, List.getElem?_eq_getElem h]
theorem qdrop {α : Type} (l : List α) (i : Nat) (z : α) (h : i < l.length) : l.drop i = l.getD i z :: l.drop (i + 1) := by
  rw [List.drop_eq_getElem_cons h, qgd l i z h]
theorem qmem {α : Type} (l : List α) (i : Nat) (z : α) (h : i < l.length) : l.getD i z ∈ l := by rw [qgd l i z h]; exact List.getElem_mem h
theorem rdQ (l : List Cube) (i : Nat) : rd_T71 l (i : Int) = l.getD i z71 := by simp [rd_T71]
theorem rdQ4 (l : List (List Cube)) (i : Nat) : rd_L4 l (i : Int) = l.getD i [] := by simp [rd_L4]
theorem prtN (l : List (List Cube)) (i : Nat) : prt l (i : Int) = l.getD i [] := by simp [prt]
theorem cube_ext {p q : Cube} (h0 : p.f0 = q.f0) (h1 : p.f1 = q.f1) (h2 : p.f2 = q.f2) : p = q := by
  cases p; cases q; simp at h0 h1 h2; rw [h0, h1, h2]

def allF (ok : Nat → Bool) (n i : Nat) : Bool := (List.range' i (n - i)).all ok
theorem allF_end (ok : Nat → Bool) (n : Nat) : allF ok n n = true := by simp [allF]
theorem allF_succ (ok : Nat → Bool) {n i : Nat} (h : i < n) : allF ok n i = (ok i && allF ok n (i + 1)) := by
  unfold allF
  rw [show n - i = (n - (i + 1)) + 1 by omega, List.range'_succ]
  rfl
theorem allF_true {ok : Nat → Bool} {n i : Nat} : allF ok n i = true ↔ ∀ j, i ≤ j → j < n → ok j = true := by
  unfold allF
  rw [List.all_eq_true]
  constructor
  · intro h j h1 h2
    exact h j (by rw [List.mem_range'_1]; omega)
  · intro h j hj
    rw [List.mem_range'_1] at hj
    exact h j (by omega) (by omega)

/-! ### solids -/
def coQ (c : Cube) : Bool := (Co c.f0 && Co c.f1) && Co c.f2
theorem coQ_iff {c : Cube} : coQ c = true ↔ (-100 ≤ c.f0 ∧ c.f0 ≤ 100) ∧ (-100 ≤ c.f1 ∧ c.f1 ≤ 100) ∧ (-100 ≤ c.f2 ∧ c.f2 ≤ 100) := by
  unfold coQ
  simp [Co_iff, and_assoc]
theorem l09Cube_eq (c : Cube) : spec_l09Cube.f c.f0 c.f1 c.f2 = some (coQ c) := by
  unfold spec_l09Cube.f coQ
  rw [l02Cell_eq]
  simp only [Option.bind_some]
  cases Co c.f0 && Co c.f1
  · simp
  · simp only [if_true, in_eq, Option.bind_some, Bool.true_and]
    rfl
def lessQ (a b : Cube) : Bool := decide (a.f2 < b.f2) || (decide (a.f2 = b.f2) && (decide (a.f1 < b.f1) || (decide (a.f1 = b.f1) && decide (a.f0 < b.f0))))
theorem l09Less_eq (a b : Cube) : spec_l09Less.f a.f0 a.f1 a.f2 b.f0 b.f1 b.f2 = some (lessQ a b) := by
  unfold spec_l09Less.f lessQ
  by_cases h : a.f2 < b.f2
  · simp [h]
  · by_cases h2 : a.f2 = b.f2
    · by_cases h3 : a.f1 < b.f1
      · simp [h2, h3]
      · by_cases h4 : a.f1 = b.f1
        · simp [h2, h4]
        · simp [h2, h3, h4]
    · simp [h, h2]
theorem isNaN_eq (x : Int) : cmp_isNaN_int64.f x = some false := by
  unfold cmp_isNaN_int64.f
  simp
def cmpI (a b : Int) : Int := if a < b then -1 else if a > b then 1 else 0
theorem Compare_eq (a b : Int) : cmp_Compare_int64.f a b = some (cmpI a b) := by
  unfold cmp_Compare_int64.f cmpI
  rw [isNaN_eq, isNaN_eq]
  simp only [Option.bind_some]
  by_cases h1 : a < b
  · simp [h1]
  · by_cases h2 : a > b
    · simp [h1, h2]
    · simp [h1, h2]
def cmpQ (a b : Cube) : Int := if cmpI a.f2 b.f2 = 0 then (if cmpI a.f1 b.f1 = 0 then cmpI a.f0 b.f0 else cmpI a.f1 b.f1) else cmpI a.f2 b.f2
theorem compareCubes_eq (a b : Cube) : impl_compareCubes.f a.f0 a.f1 a.f2 b.f0 b.f1 b.f2 = some (cmpQ a b) := by
  unfold impl_compareCubes.f impl_compareCells.f cmpQ
  rw [Compare_eq, Compare_eq, Compare_eq]
  simp only [Option.bind_some]
  by_cases h : cmpI a.f2 b.f2 = 0
  · rw [if_pos h, if_pos h]
    by_cases h2 : cmpI a.f1 b.f1 = 0
    · rw [if_pos h2, if_pos h2]; rfl
    · rw [if_neg h2, if_neg h2]; rfl
  · rw [if_neg h, if_neg h]
theorem cmpQ_less (a b : Cube) : cmpQ a b < 0 ↔ lessQ a b = true := by
  unfold cmpQ cmpI lessQ
  repeat (split)
  all_goals (simp; omega)
theorem isCoordinate_eq (x : Int) : impl_isCoordinate.f x = some (Co x) := by
  unfold impl_isCoordinate.f
  rw [within_eq]
  rfl
def soOk (l : List Cube) (i : Nat) : Bool := coQ (l.getD i z71) && (decide (i = 0) || lessQ (l.getD (i - 1) z71) (l.getD i z71))
/-- The list is a solid. -/
def So (l : List Cube) : Bool := allF (soOk l) l.length 0 && decide (1 ≤ l.length ∧ l.length ≤ 24)
theorem So_iff {l : List Cube} : So l = true ↔ (∀ j, j < l.length → soOk l j = true) ∧ 1 ≤ l.length ∧ l.length ≤ 24 := by
  unfold So
  rw [Bool.and_eq_true, allF_true, decide_eq_true_eq]
  constructor
  · rintro ⟨h1, h2⟩; exact ⟨fun j hj => h1 j (Nat.zero_le _) hj, h2⟩
  · rintro ⟨h1, h2⟩; exact ⟨fun j _ hj => h1 j hj, h2⟩
theorem So_co {l : List Cube} (h : So l = true) : ∀ c ∈ l, coQ c = true := by
  intro c hc
  obtain ⟨i, hi, rfl⟩ := List.getElem_of_mem hc
  have h1 := (So_iff.1 h).1 i hi
  unfold soOk at h1
  rw [qgd l i _ hi] at h1
  exact (Bool.and_eq_true_iff.1 h1).1
theorem l09Solid_eq (l : List Cube) (hl : l.length ≤ 9223372036854775807) : Evt (fun k => spec_l09Solid.f k l) (So l) := by
  unfold spec_l09Solid.f
  refine Evt.up (g := fun k i => spec_l09Solid.l0 k l (i : Int)) (R := fun i => allF (soOk l) l.length i && decide (1 ≤ l.length ∧ l.length ≤ 24)) (n := l.length) ?_ ?_ 0 (Nat.zero_le _)
  · refine Evt.step (fun k => rfl) ?_
    simp only [spec_l09Solid.l0]
    refine Evt.ite_neg (by omega) ?_
    rw [in_eq, allF_end, Bool.true_and]
    refine Evt.const ?_
    simp only [Option.bind_some]
    congr 1
    exact decide_eq_decide.2 (by omega)
  · intro i hi ih
    refine Evt.step (fun k => rfl) ?_
    simp only [spec_l09Solid.l0, l09Cube_eq, Option.bind_some]
    refine Evt.ite_pos (by omega) (Evt.ite_pos (by omega) ?_)
    rw [allF_succ _ hi]
    simp only [rdQ]
    by_cases hc : coQ (l.getD i z71) = true
    · refine Evt.ite_pos hc ?_
      by_cases h0 : i = 0
      · subst h0
        refine Evt.ite_neg (by omega) ?_
        rw [wrap_succ hi hl]
        have e : soOk l 0 = true := by unfold soOk; rw [hc]; rfl
        rw [e, Bool.true_and]
        exact ih
      · refine Evt.ite_pos (by omega) ?_
        have ew : wrap64 ((i : Int) - 1) = ((i - 1 : Nat) : Int) := by rw [w64 (by omega) (by omega)]; omega
        simp only [ew, rdQ, l09Less_eq, Option.bind_some]
        refine Evt.ite_pos (by omega) (Evt.ite_pos (by omega) ?_)
        rw [wrap_succ hi hl]
        by_cases hls : lessQ (l.getD (i - 1) z71) (l.getD i z71) = true
        · refine Evt.ite_pos hls ?_
          have e : soOk l i = true := by unfold soOk; rw [hc, hls]; simp
          rw [e, Bool.true_and]
          exact ih
        · refine Evt.ite_neg hls ?_
          have e : soOk l i = false := by unfold soOk; rw [hc, Bool.eq_false_iff.mpr hls]; simp [h0]
          rw [e]
          exact Evt.pure
    · refine Evt.ite_neg hc ?_
      have e : soOk l i = false := by unfold soOk; rw [Bool.eq_false_iff.mpr hc]; rfl
      rw [e]
      exact Evt.pure
theorem isSolid_eq (l : List Cube) (hl : l.length ≤ 9223372036854775807) : Evt (fun k => impl_isSolid.f k l) (So l) := by
  unfold impl_isSolid.f
  refine Evt.up (g := fun k i => impl_isSolid.l0 k l l (l.length : Int) (i : Int)) (R := fun i => allF (soOk l) l.length i && decide (1 ≤ l.length ∧ l.length ≤ 24)) (n := l.length) ?_ ?_ 0 (Nat.zero_le _)
  · refine Evt.step (fun k => rfl) ?_
    simp only [impl_isSolid.l0]
    refine Evt.ite_neg (by omega) ?_
    rw [allF_end]
    by_cases h1 : (l.length : Int) ≥ 1
    · refine Evt.ite_pos h1 (Evt.const ?_)
      rw [Bool.true_and]
      congr 1
      exact decide_eq_decide.2 (by omega)
    · refine Evt.ite_neg h1 (Evt.const ?_)
      simp
      omega
  · intro i hi ih
    refine Evt.step (fun k => rfl) ?_
    simp only [impl_isSolid.l0, isCoordinate_eq, Option.bind_some]
    refine Evt.ite_pos (by omega) (Evt.ite_pos (by omega) (Evt.ite_pos (by omega) ?_))
    rw [allF_succ _ hi]
    simp only [rdQ]
    by_cases hc0 : Co (l.getD i z71).f0 = true
    · refine Evt.ite_pos hc0 ?_
      by_cases hc1 : Co (l.getD i z71).f1 = true
      · refine Evt.ite_pos hc1 ?_
        by_cases hc2 : Co (l.getD i z71).f2 = true
        · refine Evt.ite_pos hc2 ?_
          have hco : coQ (l.getD i z71) = true := by unfold coQ; rw [hc0, hc1, hc2]; rfl
          by_cases h0 : i = 0
          · subst h0
            refine Evt.ite_neg (by omega) ?_
            rw [wrap_succ hi hl]
            have e : soOk l 0 = true := by unfold soOk; rw [hco]; rfl
            rw [e, Bool.true_and]
            exact ih
          · refine Evt.ite_pos (by omega) ?_
            have ew : wrap64 ((i : Int) - 1) = ((i - 1 : Nat) : Int) := by rw [w64 (by omega) (by omega)]; omega
            simp only [ew, rdQ, compareCubes_eq, Option.bind_some]
            refine Evt.ite_pos (by omega) (Evt.ite_pos (by omega) ?_)
            rw [wrap_succ hi hl]
            have hiff := cmpQ_less (l.getD (i - 1) z71) (l.getD i z71)
            by_cases hls : lessQ (l.getD (i - 1) z71) (l.getD i z71) = true
            · refine Evt.ite_neg (by have := hiff.2 hls; omega) ?_
              have e : soOk l i = true := by unfold soOk; rw [hco, hls]; simp
              rw [e, Bool.true_and]
              exact ih
            · refine Evt.ite_pos (by rcases Int.lt_or_le (cmpQ (l.getD (i - 1) z71) (l.getD i z71)) 0 with h | h; exact absurd (hiff.1 h) hls; exact h) ?_
              have e : soOk l i = false := by unfold soOk; rw [hco, Bool.eq_false_iff.mpr hls]; simp [h0]
              rw [e]
              exact Evt.pure
        · refine Evt.ite_neg hc2 ?_
          have e : soOk l i = false := by unfold soOk coQ; rw [Bool.eq_false_iff.mpr hc2]; simp
          rw [e]
          exact Evt.pure
      · refine Evt.ite_neg hc1 ?_
        have e : soOk l i = false := by unfold soOk coQ; rw [Bool.eq_false_iff.mpr hc1]; simp
        rw [e]
        exact Evt.pure
    · refine Evt.ite_neg hc0 ?_
      have e : soOk l i = false := by unfold soOk coQ; rw [Bool.eq_false_iff.mpr hc0]; rfl
      rw [e]
      exact Evt.pure

/-! ### where a cube stands -/
theorem hasC_mem {l : List Cube} {c : Cube} : hasC l c.f0 c.f1 c.f2 = true ↔ c ∈ l := by
  unfold hasC
  rw [List.any_eq_true]
  constructor
  · rintro ⟨q, hq, h⟩
    simp at h
    have e : c = q := cube_ext h.1.1.symm h.1.2.symm h.2.symm
    rw [e]; exact hq
  · intro h
    exact ⟨c, h, by simp⟩
theorem contains_eq (l : List Cube) (a b c : Int) (hl : l.length ≤ 9223372036854775807) : Evt (fun k => impl_Cube_97.f k l a b c) (hasC l a b c) :=
  ⟨l.length + 1, fun k hk => at_rounds (g := fun k => impl_Cube_97.f k l a b c) (fun k => impl_Cube_97.mono _ _ _ _ k) hk (has_eq l a b c hl)⟩
def ixQ (a b c : Int) : Nat → List Cube → Int
  | _, [] => -1
  | i, q :: r => if (q.f0 == a && (q.f1 == b && q.f2 == c)) = true then (i : Int) else ixQ a b c (i + 1) r
theorem ixQ_has (a b c : Int) : ∀ (l : List Cube) (i : Nat), decide (0 ≤ ixQ a b c i l) = hasC l a b c
  | [], i => by simp [ixQ, hasC]
  | q :: r, i => by
    have ih := ixQ_has a b c r (i + 1)
    unfold ixQ hasC
    rw [List.any_cons, Bool.and_assoc]
    cases h : (q.f0 == a && (q.f1 == b && q.f2 == c))
    · rw [if_neg (by simp), ih, Bool.false_or]
      rfl
    · rw [if_pos rfl]
      simp
theorem ixQ_pos {a b c : Int} {l : List Cube} (h : hasC l a b c = true) : 0 ≤ ixQ a b c 0 l := by
  have := ixQ_has a b c l 0
  rw [h] at this
  exact of_decide_eq_true this
theorem ixQ_neg {a b c : Int} {l : List Cube} (h : hasC l a b c = false) : ixQ a b c 0 l < 0 := by
  have := ixQ_has a b c l 0
  rw [h] at this
  have h2 := of_decide_eq_false this
  omega
theorem l09Index_eq (l : List Cube) (a b c : Int) (hl : l.length ≤ 9223372036854775807) : Evt (fun k => spec_l09Index.f k l a b c) (ixQ a b c 0 l) := by
  unfold spec_l09Index.f
  have h := Evt.up (g := fun k i => spec_l09Index.l0 k l (i : Int) a b c) (R := fun i => ixQ a b c i (l.drop i)) (n := l.length) ?_ ?_ 0 (Nat.zero_le _)
  · exact h
  · refine Evt.step (fun k => rfl) ?_
    simp only [spec_l09Index.l0]
    refine Evt.ite_neg (by omega) ?_
    rw [List.drop_length]
    exact Evt.pure
  · intro i hi ih
    refine Evt.step (fun k => rfl) ?_
    simp only [spec_l09Index.l0, rdQ]
    refine Evt.ite_pos (by omega) (Evt.ite_pos (by omega) ?_)
    rw [qdrop l i z71 hi]
    unfold ixQ
    by_cases hc : ((l.getD i z71).f0 == a && ((l.getD i z71).f1 == b && (l.getD i z71).f2 == c)) = true
    · rw [if_pos hc]
      exact Evt.ite_pos hc Evt.pure
    · rw [if_neg hc]
      refine Evt.ite_neg hc ?_
      rw [wrap_succ hi hl]
      exact ih
theorem nodup_leQ {α : Type} [DecidableEq α] : ∀ (a b : List α), a.Nodup → (∀ x ∈ a, x ∈ b) → a.length ≤ b.length
  | [], _, _, _ => Nat.zero_le _
  | x :: r, b, hn, hs => by
    obtain ⟨h1, h2⟩ := List.nodup_cons.1 hn
    have hx := hs x List.mem_cons_self
    have ih := nodup_leQ r (b.erase x) h2 (fun y hy => (List.mem_erase_of_ne (fun e => h1 (by rw [← e]; exact hy))).2 (hs y (List.mem_cons_of_mem _ hy)))
    rw [List.length_erase_of_mem hx] at ih
    have : 0 < b.length := List.length_pos_of_mem hx
    simp
    omega

/-! ### connectedness -/
def nbs (c : Cube) : List Cube := [⟨c.f0, c.f1, wrap64 (c.f2 - 1)⟩, ⟨c.f0, wrap64 (c.f1 - 1), c.f2⟩, ⟨wrap64 (c.f0 - 1), c.f1, c.f2⟩, ⟨wrap64 (c.f0 + 1), c.f1, c.f2⟩, ⟨c.f0, wrap64 (c.f1 + 1), c.f2⟩, ⟨c.f0, c.f1, wrap64 (c.f2 + 1)⟩]
theorem around_eq (c : Cube) : impl_cubesAround.f c.f0 c.f1 c.f2 = some (nbs c) := rfl
theorem nbs_at {c : Cube} (hc : coQ c = true) (i : Nat) (hi : i < 6) : (nbs c).getD i z71 = addS c (stepL.getD i z71) := by
  obtain ⟨h0, h1, h2⟩ := coQ_iff.1 hc
  have e0 : wrap64 (c.f0 + 0) = c.f0 := by unfold wrap64; omega
  have e1 : wrap64 (c.f1 + 0) = c.f1 := by unfold wrap64; omega
  have e2 : wrap64 (c.f2 + 0) = c.f2 := by unfold wrap64; omega
  match i, hi with
  | 0, _ => simp [nbs, stepL, addS]; exact ⟨by simpa using e0.symm, by simpa using e1.symm, by congr 1⟩
  | 1, _ => simp [nbs, stepL, addS]; exact ⟨by simpa using e0.symm, by congr 1, by simpa using e2.symm⟩
  | 2, _ => simp [nbs, stepL, addS]; exact ⟨by congr 1, by simpa using e1.symm, by simpa using e2.symm⟩
  | 3, _ => simp [nbs, stepL, addS]; exact ⟨by simpa using e1.symm, by simpa using e2.symm⟩
  | 4, _ => simp [nbs, stepL, addS]; exact ⟨by simpa using e0.symm, by simpa using e2.symm⟩
  | 5, _ => simp [nbs, stepL, addS]; exact ⟨by simpa using e0.symm, by simpa using e1.symm⟩
def Inv (l o : List Cube) : Prop := (∀ c ∈ o, c ∈ l) ∧ o.Nodup
theorem Inv.le {l o : List Cube} (h : Inv l o) : o.length ≤ l.length := by
  haveI : DecidableEq Cube := fun a b => Classical.propDecidable _
  exact nodup_leQ o l h.2 h.1
theorem Inv.snoc {l o : List Cube} (h : Inv l o) {c : Cube} (hl : c ∈ l) (ho : c ∉ o) : Inv l (o ++ [c]) := by
  refine ⟨fun d hd => ?_, ?_⟩
  · rcases List.mem_append.1 hd with hd | hd
    · exact h.1 d hd
    · rw [List.mem_singleton.1 hd]; exact hl
  · rw [List.nodup_append]
    refine ⟨h.2, by simp, fun a ha b hb => ?_⟩
    rw [List.mem_singleton.1 hb]
    exact fun e => ho (by rw [← e]; exact ha)
theorem conn_inner {l : List Cube} (hl : l.length ≤ 24) {c0 : Cube} (hc0 : coQ c0 = true) {n : Nat}
    (cont : ∀ o, Inv l o → n < o.length → Both (fun k => impl_connectedCubes.l0 k l o ((n + 1 : Nat) : Int)) (fun k => spec_l09Connected.l0 k l o ((n + 1 : Nat) : Int))) :
    ∀ (d i : Nat) (o : List Cube), i + d = 6 → Inv l o → n < o.length → o.getD n z71 = c0 → Both (fun k => impl_connectedCubes.l1 k l o (n : Int) (nbs c0) ((nbs c0).length : Int) (i : Int)) (fun k => spec_l09Connected.l1 k l o (n : Int) (i : Int)) := by
  intro d
  have h6 : ((nbs c0).length : Int) = 6 := rfl
  induction d with
  | zero =>
    intro i o hi hI hn he
    have hle := hI.le
    refine Both.stepl (fun k => rfl) (Both.stepr (fun k => rfl) ?_)
    simp only [impl_connectedCubes.l1, spec_l09Connected.l1]
    refine Both.nl (by omega) (Both.nr (by omega) ?_)
    rw [wrap_succ (n := o.length) hn (by omega)]
    exact cont o hI hn
  | succ d ih =>
    intro i o hi hI hn he
    have hle := hI.le
    refine Both.stepl (fun k => rfl) (Both.stepr (fun k => rfl) ?_)
    simp only [impl_connectedCubes.l1, spec_l09Connected.l1]
    refine Both.pl (by omega) (Both.pl (by omega) (Both.pl (by omega) (Both.pr (by omega) (Both.pr ⟨by omega, by omega, by omega⟩ ?_))))
    have hst : (stepL.length : Int) = 6 := rfl
    rw [wrap_succ (i := i) (n := 6) (by omega) (by omega)]
    have e1 : rd_T71 (nbs c0) (i : Int) = addS c0 (stepL.getD i z71) := by rw [rdQ]; exact nbs_at hc0 i (by omega)
    have e2 : addS (rd_T71 o (n : Int)) (rd_T71 stepL (i : Int)) = addS c0 (stepL.getD i z71) := by rw [rdQ, rdQ, he]
    simp only [e1, e2]
    generalize addS c0 (stepL.getD i z71) = c
    refine Both.bindl (contains_eq l _ _ _ (by omega)) (Both.bindr (l09Index_eq l _ _ _ (by omega)) ?_)
    cases h1 : hasC l c.f0 c.f1 c.f2 with
    | false =>
      have := ixQ_neg h1
      exact Both.nl (by simp) (Both.nr (by omega) (ih (i + 1) o (by omega) hI hn he))
    | true =>
      refine Both.pl rfl (Both.pr (ixQ_pos h1) ?_)
      refine Both.bindl (contains_eq o _ _ _ (by omega)) (Both.bindr (l09Index_eq o _ _ _ (by omega)) ?_)
      cases h2 : hasC o c.f0 c.f1 c.f2 with
      | true =>
        have := ixQ_pos h2
        exact Both.pl rfl (Both.nr (by omega) (ih (i + 1) o (by omega) hI hn he))
      | false =>
        have hm : c ∉ o := fun h => by rw [hasC_mem.2 h] at h2; cases h2
        refine Both.nl (by simp) (Both.pl (by omega) (Both.pr (ixQ_neg h2) (Both.pr (by omega) ?_)))
        refine ih (i + 1) (o ++ [c]) (by omega) (hI.snoc (hasC_mem.1 h1) hm) (by simp; omega) ?_
        rw [← he]
        simp [List.getD_eq_getElem?_getD, List.getElem?_append_left hn]
theorem conn_outer {l : List Cube} (hl : l.length ≤ 24) (hco : ∀ c ∈ l, coQ c = true) : ∀ (d n : Nat) (o : List Cube), l.length - n = d → n ≤ o.length → Inv l o → Both (fun k => impl_connectedCubes.l0 k l o (n : Int)) (fun k => spec_l09Connected.l0 k l o (n : Int)) := by
  intro d
  induction d using Nat.strongRecOn with
  | _ d ih =>
    intro n o hd hn hI
    have hle := hI.le
    refine Both.stepl (fun k => rfl) (Both.stepr (fun k => rfl) ?_)
    simp only [impl_connectedCubes.l0, spec_l09Connected.l0]
    by_cases h : n < o.length
    · refine Both.pl (by omega) (Both.pl (by omega) (Both.pr (by omega) (Both.pr (by omega) ?_)))
      simp only [rdQ, around_eq, Option.bind_some]
      refine conn_inner hl (hco _ (hI.1 _ (qmem o n _ h))) (fun o' hI' hn' => ih (l.length - (n + 1)) (by omega) (n + 1) o' rfl (by omega) hI') 6 0 o rfl hI h rfl
    · refine Both.nl (by omega) (Both.nr (by omega) Both.pure)
theorem conn_both {l : List Cube} (h : So l = true) : Both (fun k => impl_connectedCubes.f k l) (fun k => spec_l09Connected.f k l) := by
  obtain ⟨_, h1, h2⟩ := So_iff.1 h
  unfold impl_connectedCubes.f spec_l09Connected.f
  refine Both.pl (by omega) (Both.pr (by omega) ?_)
  have e : rd_T71 l 0 = l.getD 0 z71 := rdQ l 0
  rw [e]
  refine conn_outer h2 (So_co h) l.length 0 [l.getD 0 z71] rfl (by simp) ⟨fun c hc => ?_, by simp⟩
  rw [List.mem_singleton.1 hc]
  exact qmem l 0 _ (by omega)
/-- Whether the cubes of a solid are connected. -/
noncomputable def conQ (l : List Cube) : Bool := @dite Bool (∃ r, Evt (fun k => impl_connectedCubes.f k l) r ∧ Evt (fun k => spec_l09Connected.f k l) r) (Classical.propDecidable _) (fun h => Classical.choose h) (fun _ => false)
theorem conQ_eq {l : List Cube} (h : So l = true) : Evt (fun k => impl_connectedCubes.f k l) (conQ l) ∧ Evt (fun k => spec_l09Connected.f k l) (conQ l) := by
  have hb := conn_both h
  unfold conQ
  rw [dif_pos (show ∃ r, Evt (fun k => impl_connectedCubes.f k l) r ∧ Evt (fun k => spec_l09Connected.f k l) r from hb)]
  exact Classical.choose_spec (p := fun r => Evt (fun k => impl_connectedCubes.f k l) r ∧ Evt (fun k => spec_l09Connected.f k l) r) hb
end Go.Proofs.Ytjgnlakgojookaa.Pure
