/- The reference's functions on lists of cells (insert, sort, move, normal form, neighbours) as plain functions on lists; lists of at most a million cells. -/
import Derived.Test.YtcgnnfaemjjljaaDoorVIndex
import Derived.Test.YtcgnnfaemjjljaaDoorQ28
import Derived.Test.YtcgnnfaemjjljaaDoorQ29
import Derived.Test.YtcgnnfaemjjljaaDoorQ30
import Derived.Test.YtcgnnfaemjjljaaDoorQ31
import Derived.Test.YtcgnnfaemjjljaaDoorQ0
import Derived.Test.YtcgnnfaemjjljaaDoorOpn
namespace Go.Proofs.YtcgnnfaemjjljaaDoor.Pure
open Go.RowKit Go.Proofs.YtcgnnfaemjjljaaDoor Go.Proofs.YtcgnnfaemjjljaaDoor.Q Go.Proofs.YtcgnnfaemjjljaaDoorW.PrintWords
set_option linter.unusedVariables false
set_option linter.unusedSimpArgs false

theorem getD_cell (l : List Cell) (i : Nat) : (⟨(l.getD i z42).f0, (l.getD i z42).f1⟩ : Cell) = l.getD i z42 := rfl
/-! ### insert -/
def ins (c : Cell) : List Cell → List Cell
  | [] => [c]
  | d :: r => if lessC c d = true then c :: d :: r else d :: ins c r
theorem ins_perm (c : Cell) : ∀ l : List Cell, (ins c l).Perm (c :: l)
  | [] => List.Perm.refl _
  | d :: r => by
    unfold ins
    by_cases h : lessC c d = true
    · rw [if_pos h]
    · rw [if_neg h]
      exact ((ins_perm c r).cons d).trans (List.Perm.swap _ _ _)
theorem ins_len (c : Cell) (l : List Cell) : (ins c l).length = l.length + 1 := (ins_perm c l).length_eq
theorem ins_mem {c d : Cell} {l : List Cell} : d ∈ ins c l ↔ d = c ∨ d ∈ l := by rw [(ins_perm c l).mem_iff, List.mem_cons]
theorem insert_done (l : List Cell) (x y : Int) (hl : l.length ≤ 1000000) : ∀ (i : Nat) (out : List Cell), i ≤ l.length → out.length = i + 1 → Evt (fun k => spec_l02Insert.l0 k l out true (i : Int) x y) (out ++ l.drop i) := by
  refine Evt.upS (g := fun k i out => spec_l02Insert.l0 k l out true (i : Int) x y) (R := fun i out => out ++ l.drop i) (P := fun i out => out.length = i + 1) ?_ ?_
  · intro out _
    refine Evt.step (fun k => rfl) ?_
    simp only [spec_l02Insert.l0]
    refine Evt.ite_neg (by omega) (Evt.ite_pos trivial ?_)
    rw [List.drop_length, List.append_nil]
    exact Evt.pure
  · intro i out hi hp ih
    refine Evt.step (fun k => rfl) ?_
    simp only [spec_l02Insert.l0, rd_getD, getD_cell]
    refine Evt.ite_pos (by omega) (Evt.ite_pos trivial (Evt.ite_pos (by omega) (Evt.ite_pos (by omega) ?_)))
    rw [wrap_succ hi (by omega), drop_getD l i z42 hi]
    have := ih (out ++ [l.getD i z42]) (by simp [hp])
    rw [List.append_assoc] at this
    exact this
theorem l02Insert_eq (l : List Cell) (c : Cell) (hl : l.length ≤ 1000000) : Evt (fun k => spec_l02Insert.f k l c.f0 c.f1) (ins c l) := by
  unfold spec_l02Insert.f
  have h := Evt.upS (g := fun k i out => spec_l02Insert.l0 k l out false (i : Int) c.f0 c.f1) (R := fun i out => out ++ ins c (l.drop i)) (P := fun i out => out.length = i) (n := l.length) ?_ ?_ 0 [] (Nat.zero_le _) rfl
  · exact h
  · intro out hp
    refine Evt.step (fun k => rfl) ?_
    simp only [spec_l02Insert.l0]
    refine Evt.ite_neg (by omega) (Evt.ite_neg (by simp) (Evt.ite_pos (by omega) ?_))
    rw [List.drop_length]
    exact Evt.pure
  · intro i out hi hp ih
    refine Evt.step (fun k => rfl) ?_
    simp only [spec_l02Insert.l0, rd_getD, getD_cell, l02Less_eq, Option.bind_some]
    refine Evt.ite_pos (by omega) (Evt.ite_neg (by simp) (Evt.ite_pos (by omega) ?_))
    rw [drop_getD l i z42 hi, wrap_succ hi (by omega)]
    unfold ins
    by_cases hc : lessC c (l.getD i z42) = true
    · rw [if_pos hc]
      refine Evt.ite_pos hc (Evt.ite_pos (by omega) (Evt.ite_pos (by simp; omega) ?_))
      have := insert_done l c.f0 c.f1 hl (i + 1) ((out ++ [c]) ++ [l.getD i z42]) (by omega) (by simp [hp])
      rw [List.append_assoc, List.append_assoc] at this
      rw [List.append_assoc]
      exact this
    · rw [if_neg hc]
      refine Evt.ite_neg hc (Evt.ite_pos (by omega) ?_)
      have := ih (out ++ [l.getD i z42]) (by simp [hp])
      rw [List.append_assoc] at this
      exact this
/-! ### sort -/
def sortC (l : List Cell) : List Cell := l.foldl (fun acc c => ins c acc) []
theorem foldl_ins_len (l acc : List Cell) : (l.foldl (fun acc c => ins c acc) acc).length = acc.length + l.length := by
  induction l generalizing acc with
  | nil => rfl
  | cons c r ih => rw [List.foldl_cons, ih, ins_len]; simp; omega
theorem sortC_len (l : List Cell) : (sortC l).length = l.length := by
  unfold sortC
  rw [foldl_ins_len]
  simp
theorem foldl_ins_perm (l acc : List Cell) : (l.foldl (fun acc c => ins c acc) acc).Perm (l ++ acc) := by
  induction l generalizing acc with
  | nil => exact List.Perm.refl _
  | cons c r ih =>
    rw [List.foldl_cons]
    refine (ih (ins c acc)).trans ?_
    refine ((ins_perm c acc).append_left r).trans ?_
    exact List.perm_middle
theorem sortC_perm (l : List Cell) : (sortC l).Perm l := by
  have := foldl_ins_perm l []
  rw [List.append_nil] at this
  exact this
def movC (l : List Cell) (x y : Int) : List Cell := l.map fun c => ⟨c.f0 + x, c.f1 + y⟩
theorem movC_len (l : List Cell) (x y : Int) : (movC l x y).length = l.length := by simp [movC]
/-- Coordinates of at most b. -/
def In (b : Int) (l : List Cell) : Prop := ∀ c ∈ l, (-b ≤ c.f0 ∧ c.f0 ≤ b) ∧ -b ≤ c.f1 ∧ c.f1 ≤ b
theorem In.at {b : Int} {l : List Cell} (h : In b l) (i : Nat) (hi : i < l.length) : (-b ≤ (l.getD i z42).f0 ∧ (l.getD i z42).f0 ≤ b) ∧ -b ≤ (l.getD i z42).f1 ∧ (l.getD i z42).f1 ≤ b :=
  h _ (by rw [List.getD_eq_getElem?_getD, List.getElem?_eq_getElem hi]; exact List.getElem_mem hi)
theorem movC_drop (l : List Cell) (x y : Int) (i : Nat) (hi : i < l.length) : movC (l.drop i) x y = (⟨(l.getD i z42).f0 + x, (l.getD i z42).f1 + y⟩ : Cell) :: movC (l.drop (i + 1)) x y := by
  rw [drop_getD l i z42 hi]
  rfl
theorem l02Move_eq (l : List Cell) (x y : Int) (hl : l.length ≤ 1000000) (hi : In 1000000000 l) (hx : -1000000000 ≤ x ∧ x ≤ 1000000000) (hy : -1000000000 ≤ y ∧ y ≤ 1000000000) : Evt (fun k => spec_l02Move.f k l x y) (movC l x y) := by
  unfold spec_l02Move.f
  have h := Evt.upS (g := fun k i acc => spec_l02Move.l0 k l x y acc (i : Int)) (R := fun i acc => acc ++ movC (l.drop i) x y) (P := fun i acc => acc.length = i) (n := l.length) ?_ ?_ 0 [] (Nat.zero_le _) rfl
  · exact h
  · intro out hp
    refine Evt.step (fun k => rfl) ?_
    simp only [spec_l02Move.l0]
    refine Evt.ite_neg (by omega) ?_
    rw [List.drop_length]
    exact Evt.const (by simp [movC])
  · intro i acc hi2 hp ih
    have hb := In.at hi i hi2
    refine Evt.step (fun k => rfl) ?_
    simp only [spec_l02Move.l0, rd_getD]
    refine Evt.ite_pos (by omega) (Evt.ite_pos (by omega) (Evt.ite_pos (by omega) ?_))
    rw [w64 (n := (l.getD i z42).f0 + x) (by omega) (by omega), w64 (n := (l.getD i z42).f1 + y) (by omega) (by omega), wrap_succ hi2 (by omega), movC_drop l x y i hi2]
    have := ih (acc ++ [⟨(l.getD i z42).f0 + x, (l.getD i z42).f1 + y⟩]) (by simp [hp])
    rw [List.append_assoc] at this
    exact this
/-! ### least coordinates, normal form -/
def leastF (l : List Cell) (p : Int × Int) : Int × Int := l.foldl (fun p c => (mn p.1 c.f0, mn p.2 c.f1)) p
def leastC (l : List Cell) : Int × Int := leastF (l.drop 1) ((l.getD 0 z42).f0, (l.getD 0 z42).f1)
theorem l02Least_eq (l : List Cell) (h0 : l ≠ []) (hl : l.length ≤ 1000000) : Evt (fun k => spec_l02Least.f k l) (leastC l) := by
  have hp : 0 < l.length := List.length_pos_iff.2 h0
  unfold spec_l02Least.f
  refine Evt.ite_pos (by omega) ?_
  have h := Evt.upS (g := fun k i (p : Int × Int) => spec_l02Least.l0 k l p.1 p.2 (i : Int)) (R := fun i p => leastF (l.drop i) p) (P := fun _ _ => True) (n := l.length) ?_ ?_ 1 ((l.getD 0 z42).f0, (l.getD 0 z42).f1) hp trivial
  · exact h
  · rintro ⟨a, b⟩ _
    refine Evt.step (fun k => rfl) ?_
    simp only [spec_l02Least.l0]
    refine Evt.ite_neg (by omega) ?_
    rw [List.drop_length]
    exact Evt.pure
  · rintro i ⟨a, b⟩ hi _ ih
    refine Evt.step (fun k => rfl) ?_
    simp only [spec_l02Least.l0, rd_getD]
    refine Evt.ite_pos (by omega) (Evt.ite_pos (by omega) ?_)
    rw [wrap_succ hi (by omega), drop_getD l i z42 hi]
    exact ih (mn a (l.getD i z42).f0, mn b (l.getD i z42).f1) trivial
theorem leastF_le (l : List Cell) (p : Int × Int) : (leastF l p).1 ≤ p.1 ∧ (leastF l p).2 ≤ p.2 ∧ ∀ c ∈ l, (leastF l p).1 ≤ c.f0 ∧ (leastF l p).2 ≤ c.f1 := by
  induction l generalizing p with
  | nil => exact ⟨Int.le_refl _, Int.le_refl _, by simp⟩
  | cons c r ih =>
    obtain ⟨a, b, h⟩ := ih (mn p.1 c.f0, mn p.2 c.f1)
    unfold leastF at *
    rw [List.foldl_cons]
    simp only at a b
    have m1 : mn p.1 c.f0 ≤ p.1 ∧ mn p.1 c.f0 ≤ c.f0 := by unfold mn; omega
    have m2 : mn p.2 c.f1 ≤ p.2 ∧ mn p.2 c.f1 ≤ c.f1 := by unfold mn; omega
    refine ⟨by omega, by omega, fun d hd => ?_⟩
    rcases List.mem_cons.1 hd with rfl | hd
    · omega
    · exact h d hd
theorem leastF_ge (l : List Cell) (p : Int × Int) (b : Int) (hp : b ≤ p.1 ∧ b ≤ p.2) (h : ∀ c ∈ l, b ≤ c.f0 ∧ b ≤ c.f1) : b ≤ (leastF l p).1 ∧ b ≤ (leastF l p).2 := by
  induction l generalizing p with
  | nil => exact hp
  | cons c r ih =>
    unfold leastF at *
    rw [List.foldl_cons]
    have hc := h c List.mem_cons_self
    exact ih _ (by unfold mn; simp only; omega) (fun d hd => h d (List.mem_cons_of_mem _ hd))
theorem leastC_le {l : List Cell} : ∀ c ∈ l, (leastC l).1 ≤ c.f0 ∧ (leastC l).2 ≤ c.f1 := by
  intro c hc
  cases l with
  | nil => cases hc
  | cons d r =>
    have h := leastF_le r (d.f0, d.f1)
    have e : leastC (d :: r) = leastF r (d.f0, d.f1) := rfl
    rw [e]
    rcases List.mem_cons.1 hc with rfl | hc
    · exact ⟨h.1, h.2.1⟩
    · exact h.2.2 c hc
theorem leastC_in {l : List Cell} {b : Int} (h0 : l ≠ []) (h : In b l) : (-b ≤ (leastC l).1 ∧ (leastC l).1 ≤ b) ∧ -b ≤ (leastC l).2 ∧ (leastC l).2 ≤ b := by
  cases l with
  | nil => exact absurd rfl h0
  | cons d r =>
    have hd := h d List.mem_cons_self
    have h1 := leastC_le (l := d :: r) d List.mem_cons_self
    have e : leastC (d :: r) = leastF r (d.f0, d.f1) := rfl
    have h2 := leastF_ge r (d.f0, d.f1) (-b) ⟨hd.1.1, hd.2.1⟩ (fun c hc => ⟨(h c (List.mem_cons_of_mem _ hc)).1.1, (h c (List.mem_cons_of_mem _ hc)).2.1⟩)
    rw [← e] at h2
    omega
def normC (l : List Cell) : List Cell := movC l (-(leastC l).1) (-(leastC l).2)
theorem l02Normal_eq (l : List Cell) (h0 : l ≠ []) (hl : l.length ≤ 1000000) (hi : In 1000000 l) : Evt (fun k => spec_l02Normal.f k l) (normC l) := by
  unfold spec_l02Normal.f
  have hb := leastC_in h0 hi
  refine (l02Least_eq l h0 hl).bind ?_
  rw [w64 (by omega) (by omega), w64 (by omega) (by omega)]
  exact (l02Move_eq l _ _ hl (fun c hc => by have := hi c hc; omega) (by omega) (by omega)).bind Evt.pure
/-! ### neighbours -/
def arC (c : Cell) : List Cell := [⟨c.f0, c.f1 - 1⟩, ⟨c.f0 - 1, c.f1⟩, ⟨c.f0 + 1, c.f1⟩, ⟨c.f0, c.f1 + 1⟩]
instance : DecidableEq Cell := fun a b => if h : a.f0 = b.f0 ∧ a.f1 = b.f1 then isTrue (by cases a; cases b; simp at h; rw [h.1, h.2]) else isFalse (fun e => h (by rw [e]; exact ⟨rfl, rfl⟩))
def nbStep (l : List Cell) (out : List Cell) (d : Cell) : List Cell := if d ∈ l then out else if d ∈ out then out else ins d out
def nbC (l : List Cell) : List Cell := l.foldl (fun out c => (arC c).foldl (nbStep l) out) []
theorem ar_eq (c : Cell) (h : (-1000000 ≤ c.f0 ∧ c.f0 ≤ 1000000) ∧ -1000000 ≤ c.f1 ∧ c.f1 ≤ 1000000) : spec_l02Around.f c.f0 c.f1 = some (arC c) := by
  unfold spec_l02Around.f arC
  rw [w64 (by omega) (by omega), w64 (by omega) (by omega), w64 (by omega) (by omega), w64 (by omega) (by omega)]
theorem nbStep_len (l out : List Cell) (d : Cell) : out.length ≤ (nbStep l out d).length ∧ (nbStep l out d).length ≤ out.length + 1 := by
  unfold nbStep
  split
  · omega
  · split
    · omega
    · rw [ins_len]; omega
theorem ixAt_lt (d : Cell) (l : List Cell) : ixAt (d.f0, d.f1) 0 l < 0 ↔ d ∉ l := by
  have h := ixAt_mem (d.f0, d.f1) l 0
  have e : cc (d.f0, d.f1) = d := rfl
  rw [e] at h
  rw [← h]
  omega
theorem nb_loop (l : List Cell) (hl : l.length ≤ 100000) (hi : In 1000000 l) : ∀ (i : Nat) (out : List Cell), i ≤ l.length → out.length ≤ 4 * i → Evt (fun k => spec_l02Neighbours.l0 k l out (i : Int)) ((l.drop i).foldl (fun out c => (arC c).foldl (nbStep l) out) out) := by
  refine Evt.upS (g := fun k i out => spec_l02Neighbours.l0 k l out (i : Int)) (R := fun i out => (l.drop i).foldl (fun out c => (arC c).foldl (nbStep l) out) out) (P := fun i out => out.length ≤ 4 * i) ?_ ?_
  · intro out _
    refine Evt.step (fun k => rfl) ?_
    simp only [spec_l02Neighbours.l0]
    refine Evt.ite_neg (by omega) ?_
    rw [List.drop_length]
    exact Evt.pure
  · intro i out hi2 hp ih
    have hb := In.at hi i hi2
    refine Evt.step (fun k => rfl) ?_
    simp only [spec_l02Neighbours.l0, rd_getD, ar_eq _ hb, Option.bind_some]
    refine Evt.ite_pos (by omega) (Evt.ite_pos (by omega) ?_)
    rw [drop_getD l i z42 hi2, List.foldl_cons]
    have ha : (arC (l.getD i z42)).length = 4 := rfl
    generalize arC (l.getD i z42) = a at ha ⊢
    have h := Evt.upS (g := fun k j (o : List Cell) => spec_l02Neighbours.l1 k l o (i : Int) a (j : Int)) (R := fun j o => (l.drop (i + 1)).foldl (fun out c => (arC c).foldl (nbStep l) out) ((a.drop j).foldl (nbStep l) o)) (P := fun j o => o.length ≤ 4 * i + j) (n := 4) ?_ ?_ 0 out (Nat.zero_le _) hp
    · exact h
    · intro o ho
      refine Evt.step (fun k => rfl) ?_
      simp only [spec_l02Neighbours.l1]
      refine Evt.ite_neg (by omega) ?_
      rw [wrap_succ hi2 (by omega), List.drop_of_length_le (by omega : a.length ≤ 4)]
      exact ih o (by omega)
    · intro j o hj ho ihj
      refine Evt.step (fun k => rfl) ?_
      simp only [spec_l02Neighbours.l1, rd_getD]
      refine Evt.ite_pos (by omega) (Evt.ite_pos (by omega) (Evt.ite_pos (by omega) ?_))
      rw [drop_getD a j z42 (by omega), List.foldl_cons]
      have hs := nbStep_len l o (a.getD j z42)
      have ihj' := ihj (nbStep l o (a.getD j z42)) (by omega)
      have ew : wrap64 ((j : Int) + 1) = ((j + 1 : Nat) : Int) := by rw [w64 (by omega) (by omega)]; omega
      rw [ew]
      refine (l02Index_eq l _ _ (by omega)).bind ?_
      unfold nbStep at ihj' ⊢
      by_cases h1 : a.getD j z42 ∈ l
      · rw [if_pos h1] at ihj' ⊢
        exact Evt.ite_neg (by rw [ixAt_lt]; exact fun h => h h1) ihj'
      · rw [if_neg h1] at ihj' ⊢
        refine Evt.ite_pos ((ixAt_lt _ _).2 h1) ?_
        refine (l02Index_eq o _ _ (by omega)).bind ?_
        by_cases h2 : a.getD j z42 ∈ o
        · rw [if_pos h2] at ihj' ⊢
          exact Evt.ite_neg (by rw [ixAt_lt]; exact fun h => h h2) ihj'
        · rw [if_neg h2] at ihj' ⊢
          refine Evt.ite_pos ((ixAt_lt _ _).2 h2) ?_
          exact (l02Insert_eq o (a.getD j z42) (by omega)).bind ihj'
theorem l02Neighbours_eq (l : List Cell) (hl : l.length ≤ 100000) (hi : In 1000000 l) : Evt (fun k => spec_l02Neighbours.f k l) (nbC l) := by
  unfold spec_l02Neighbours.f
  exact nb_loop l hl hi 0 [] (Nat.zero_le _) (by simp)
end Go.Proofs.YtcgnnfaemjjljaaDoor.Pure
