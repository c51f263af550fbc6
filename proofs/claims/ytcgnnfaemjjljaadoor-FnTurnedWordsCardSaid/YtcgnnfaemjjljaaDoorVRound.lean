/- The reference's checks of a shape (its parts, whether it is plain) end, its boundary word ends (the next edge is told by a one-to-one law, the edges are finitely many), and so does its draw of a word; conditions stand with each. -/
import Derived.Test.YtcgnnfaemjjljaaDoorVEvt
import Derived.Test.YtcgnnfaemjjljaaDoorQ0
import Derived.Test.YtcgnnfaemjjljaaDoorOpn
import Derived.Test.YtcgnnfaemjjljaaDoorVSpec2
import Derived.Test.YtcgnnfaemjjljaaDoorQ34
import Derived.Test.YtcgnnfaemjjljaaDoorQ35
import Derived.Test.YtcgnnfaemjjljaaDoorQ36
import Derived.Test.YtcgnnfaemjjljaaDoorQ37
import Derived.Test.YtcgnnfaemjjljaaDoorQ38
import Derived.Test.YtcgnnfaemjjljaaDoorQ39
import Derived.Test.YtcgnnfaemjjljaaDoorVDraw2
import Derived.Test.YtcgnnfaemjjljaaDoorQ40
import Derived.Test.YtcgnnfaemjjljaaDoorQ41
namespace Go.Proofs.YtcgnnfaemjjljaaDoor.Pure
open Go.RowKit Go.Proofs.YtcgnnfaemjjljaaDoor Go.Proofs.YtcgnnfaemjjljaaDoor.Q Go.Proofs.YtcgnnfaemjjljaaDoorW.PrintWords
set_option linter.unusedVariables false
set_option linter.unusedSimpArgs false

def Ev {α : Type} (g : Nat → Option α) (Q : α → Prop) : Prop := ∃ r, Evt g r ∧ Q r
theorem Ev.pure {α : Type} {Q : α → Prop} {r : α} (h : Q r) : Ev (fun _ => some r) Q := ⟨r, Evt.pure, h⟩
theorem Ev.const {α : Type} {Q : α → Prop} {o : Option α} {r : α} (e : o = some r) (h : Q r) : Ev (fun _ => o) Q := ⟨r, Evt.const e, h⟩
theorem Ev.of {α : Type} {g : Nat → Option α} {Q : α → Prop} {r : α} (e : Evt g r) (h : Q r) : Ev g Q := ⟨r, e, h⟩
theorem Ev.mono {α : Type} {g : Nat → Option α} {Q Q' : α → Prop} (h : Ev g Q) (hq : ∀ r, Q r → Q' r) : Ev g Q' := by
  obtain ⟨r, a, b⟩ := h
  exact ⟨r, a, hq r b⟩
theorem Ev.step {α : Type} {g h : Nat → Option α} {Q : α → Prop} (e : ∀ k, g (k + 1) = h k) (hh : Ev h Q) : Ev g Q := by
  obtain ⟨r, a, b⟩ := hh
  exact ⟨r, a.step e, b⟩
theorem Ev.pos {α : Type} {c : Prop} [Decidable c] {g h : Nat → Option α} {Q : α → Prop} (hc : c) (hg : Ev g Q) : Ev (fun k => if c then g k else h k) Q := by
  obtain ⟨r, a, b⟩ := hg
  exact ⟨r, a.of_eq (fun _ => if_pos hc), b⟩
theorem Ev.neg {α : Type} {c : Prop} [Decidable c] {g h : Nat → Option α} {Q : α → Prop} (hc : ¬ c) (hg : Ev h Q) : Ev (fun k => if c then g k else h k) Q := by
  obtain ⟨r, a, b⟩ := hg
  exact ⟨r, a.of_eq (fun _ => if_neg hc), b⟩
theorem Ev.bind {α β : Type} {g : Nat → Option α} {f : Nat → α → Option β} {P : α → Prop} {Q : β → Prop} (h : Ev g P) (h2 : ∀ a, P a → Ev (fun k => f k a) Q) : Ev (fun k => (g k).bind (f k)) Q := by
  obtain ⟨a, e, p⟩ := h
  obtain ⟨r, e2, q⟩ := h2 a p
  exact ⟨r, e.bind e2, q⟩
theorem Ev.bindE {α β : Type} {g : Nat → Option α} {f : Nat → α → Option β} {a : α} {Q : β → Prop} (h : Evt g a) (h2 : Ev (fun k => f k a) Q) : Ev (fun k => (g k).bind (f k)) Q := by
  obtain ⟨r, e2, q⟩ := h2
  exact ⟨r, h.bind e2, q⟩
/-- A loop that counts up to n. -/
theorem Ev.up {α : Type} {g : Nat → Nat → Option α} {Q : α → Prop} {n : Nat} (hend : Ev (fun k => g k n) Q) (hstep : ∀ i, i < n → Ev (fun k => g k (i + 1)) Q → Ev (fun k => g k i) Q) : ∀ i, i ≤ n → Ev (fun k => g k i) Q := by
  intro i hi
  obtain ⟨d, hd⟩ : ∃ d, n = i + d := ⟨n - i, by omega⟩
  induction d generalizing i with
  | zero => have e : i = n := by omega
            rw [e]; exact hend
  | succ d ih => exact hstep i (by omega) (ih (i + 1) (by omega) (by omega))
theorem Ev.upS {α σ : Type} {g : Nat → Nat → σ → Option α} {Q : α → Prop} {P : Nat → σ → Prop} {n : Nat} (hend : ∀ s, P n s → Ev (fun k => g k n s) Q)
    (hstep : ∀ i s, i < n → P i s → (∀ s', P (i + 1) s' → Ev (fun k => g k (i + 1) s') Q) → Ev (fun k => g k i s) Q) : ∀ i s, i ≤ n → P i s → Ev (fun k => g k i s) Q := by
  intro i s hi hp
  obtain ⟨d, hd⟩ : ∃ d, n = i + d := ⟨n - i, by omega⟩
  induction d generalizing i s with
  | zero => have e : i = n := by omega
            rw [e] at hp ⊢; exact hend s hp
  | succ d ih => exact hstep i s (by omega) hp (fun s' hp' => ih (i + 1) s' (by omega) hp' (by omega))
theorem ixAt_top (p : Int × Int) : ∀ (l : List Cell) (i : Nat), ixAt p i l < (i : Int) + l.length ∨ ixAt p i l = -1
  | [], i => Or.inr rfl
  | c :: r, i => by
    unfold ixAt
    by_cases h : c.f0 = p.1 ∧ c.f1 = p.2
    · rw [if_pos h]
      exact Or.inl (by simp only [List.length_cons]; omega)
    · rw [if_neg h]
      rcases ixAt_top p r (i + 1) with h2 | h2
      · refine Or.inl ?_
        simp only [List.length_cons]
        omega
      · exact Or.inr h2
theorem getD_mem0 {α : Type} (l : List α) (i : Nat) (z : α) (h : i < l.length) : l.getD i z ∈ l := by
  simp [List.getD_eq_getElem?_getD, List.getElem?_eq_getElem h]
theorem rdI (l : List Int) (i : Nat) : rd l (i : Int) = l.getD i 0 := by simp [rd]
def negs : List Int → Nat
  | [] => 0
  | x :: r => (if x < 0 then 1 else 0) + negs r
theorem negs_le : ∀ l : List Int, negs l ≤ l.length
  | [] => Nat.le_refl _
  | x :: r => by
    have := negs_le r
    unfold negs
    simp only [List.length_cons]
    split <;> omega
theorem negs_set : ∀ (l : List Int) (i : Nat) (a : Int), i < l.length → l.getD i 0 < 0 → 0 ≤ a → negs (l.set i a) + 1 = negs l
  | [], i, a, h, _, _ => by simp at h
  | x :: r, 0, a, _, h, h0 => by
    simp only [List.getD_cons_zero] at h
    simp only [List.set_cons_zero, negs]
    rw [if_pos h, if_neg (by omega)]
    omega
  | x :: r, i + 1, a, hl, h, h0 => by
    simp only [List.getD_cons_succ] at h
    simp only [List.set_cons_succ, negs]
    have := negs_set r i a (by simpa using hl) h h0
    omega
def Opens (n : Nat) (l : List Int) : Prop := ∀ e ∈ l, 0 ≤ e ∧ e < (n : Int)
section
variable {l : List Cell} (hl : l.length ≤ 100000) (hi : In 1000000 l) {Q : List Int → Prop}
include hl
theorem parts_l3 {x5 : Int} (h5 : 0 ≤ x5) {M : Nat} (hM : M ≤ 1000000) (c7 : List Cell) (h7 : c7.length = 4)
    (cont : ∀ x3 x6, x3.length = l.length → Opens l.length x6 → negs x3 + x6.length ≤ M → Ev (fun k => spec_l02Parts.l2 k l x3 x5 x6) Q) :
    ∀ (x3 x6 : List Int), x3.length = l.length → Opens l.length x6 → negs x3 + x6.length ≤ M → Ev (fun k => spec_l02Parts.l3 k l x3 x5 x6 c7 0) Q := by
  intro x3 x6 a b c
  refine Ev.upS (g := fun k i (s : List Int × List Int) => spec_l02Parts.l3 k l s.1 x5 s.2 c7 (i : Int)) (P := fun _ s => s.1.length = l.length ∧ Opens l.length s.2 ∧ negs s.1 + s.2.length ≤ M) (n := 4) ?_ ?_ 0 (x3, x6) (by omega) ⟨a, b, c⟩
  · rintro ⟨x3, x6⟩ ⟨a, b, c⟩
    refine Ev.step (fun k => rfl) ?_
    simp only [spec_l02Parts.l3]
    exact Ev.neg (by omega) (cont x3 x6 a b c)
  · rintro i ⟨x3, x6⟩ hi4 ⟨a, b, c⟩ ih
    replace a : x3.length = l.length := a
    replace b : Opens l.length x6 := b
    replace c : negs x3 + x6.length ≤ M := c
    refine Ev.step (fun k => rfl) ?_
    simp only [spec_l02Parts.l3]
    refine Ev.pos (by omega) (Ev.pos (by omega) (Ev.pos (by omega) ?_))
    refine Ev.bindE (l02Index_eq l _ _ (by omega)) ?_
    have htop := ixAt_top ((rd_T42 c7 (i : Int)).f0, (rd_T42 c7 (i : Int)).f1) l 0
    generalize ixAt ((rd_T42 c7 (i : Int)).f0, (rd_T42 c7 (i : Int)).f1) 0 l = t at htop ⊢
    rw [wrap_succ hi4 (by omega)]
    by_cases ht : t ≥ 0
    · obtain ⟨j, rfl⟩ : ∃ j : Nat, t = (j : Int) := ⟨t.toNat, by omega⟩
      have hj : j < l.length := by omega
      refine Ev.pos ht (Ev.pos (by omega) (Ev.pos (by omega) ?_))
      rw [rdI, Int.toNat_natCast]
      by_cases hn : x3.getD j 0 < 0
      · have hs := negs_set x3 j x5 (by omega) hn h5
        refine Ev.pos hn (Ev.pos (by omega) (ih (_, _) ⟨by simpa using a, ?_, ?_⟩))
        · intro e he
          rcases List.mem_append.1 he with he | he
          · exact b e he
          · rw [List.mem_singleton.1 he]; omega
        · simp only [List.length_append, List.length_singleton]
          omega
      · exact Ev.neg hn (ih (x3, x6) ⟨a, b, c⟩)
    · exact Ev.neg ht (ih (x3, x6) ⟨a, b, c⟩)
include hi
theorem parts_l2 {x5 : Int} (h5 : 0 ≤ x5) (cont : ∀ x3, x3.length = l.length → Ev (fun k => spec_l02Parts.l1 k l x3 (wrap64 (x5 + 1))) Q) :
    ∀ (M : Nat) (x3 x6 : List Int), M ≤ 1000000 → x3.length = l.length → Opens l.length x6 → negs x3 + x6.length ≤ M → Ev (fun k => spec_l02Parts.l2 k l x3 x5 x6) Q := by
  intro M
  induction M with
  | zero =>
    intro x3 x6 _ a b c
    refine Ev.step (fun k => rfl) ?_
    simp only [spec_l02Parts.l2]
    exact Ev.neg (by omega) (cont x3 a)
  | succ M ih =>
    intro x3 x6 hM a b c
    refine Ev.step (fun k => rfl) ?_
    simp only [spec_l02Parts.l2]
    cases x6 with
    | nil => exact Ev.neg (by simp) (cont x3 a)
    | cons e r =>
      have he := b e List.mem_cons_self
      obtain ⟨j, rfl⟩ : ∃ j : Nat, e = (j : Int) := ⟨e.toNat, by omega⟩
      have e0 : rd ((j : Int) :: r) 0 = (j : Int) := by simp [rd]
      have hc := hi.at j (by omega)
      rw [e0, rd_getD, ar_eq _ ⟨by omega, by omega⟩]
      simp only [Option.bind_some]
      simp only [List.length_cons] at c ⊢
      refine Ev.pos (by omega) (Ev.pos (by omega) (Ev.pos he.1 (Ev.pos (by omega) (Ev.pos (by omega) ?_))))
      have ed : (((j : Int) :: r).drop (1 : Int).toNat) = r := rfl
      rw [ed]
      exact parts_l3 hl h5 (M := M) (by omega) _ rfl (fun y3 y6 a' b' c' => ih y3 y6 (by omega) a' b' c') x3 r a (fun e he => b e (List.mem_cons_of_mem _ he)) (by omega)
theorem parts_l1 : ∀ (d i : Nat) (x3 : List Int), i + d = l.length → x3.length = l.length → Ev (fun k => spec_l02Parts.l1 k l x3 (i : Int)) (fun r => r.length = l.length) := by
  intro d
  induction d with
  | zero =>
    intro i x3 hd a
    refine Ev.step (fun k => rfl) ?_
    simp only [spec_l02Parts.l1]
    exact Ev.neg (by omega) (Ev.pure a)
  | succ d ih =>
    intro i x3 hd a
    refine Ev.step (fun k => rfl) ?_
    have hw : wrap64 ((i : Int) + 1) = ((i + 1 : Nat) : Int) := wrap_succ (n := l.length) (by omega) (by omega)
    simp only [spec_l02Parts.l1]
    refine Ev.pos (by omega) (Ev.pos (by omega) (Ev.pos (by omega) ?_))
    rw [rdI, Int.toNat_natCast]
    by_cases h : x3.getD i 0 ≥ 0
    · rw [hw]
      exact Ev.pos h (ih (i + 1) x3 (by omega) a)
    · refine Ev.neg h ?_
      have hn := negs_le (x3.set i (i : Int))
      simp only [List.length_set] at hn
      refine parts_l2 hl hi (by omega) (fun y3 a' => ?_) (l.length + 1) _ _ (by omega) (by simpa using a) ?_ (by simp; omega)
      · rw [hw]
        exact ih (i + 1) y3 (by omega) a'
      · intro e he
        rw [List.mem_singleton.1 he]
        omega
theorem parts_ends : Ev (fun k => spec_l02Parts.f k l) (fun r => r.length = l.length) := by
  unfold spec_l02Parts.f
  refine Ev.upS (g := fun k i s => spec_l02Parts.l0 k l s (i : Int)) (P := fun i s => s.length = i) (n := l.length) ?_ ?_ 0 _ (Nat.zero_le _) rfl
  · intro s hs
    refine Ev.step (fun k => rfl) ?_
    simp only [spec_l02Parts.l0]
    exact Ev.neg (by omega) (parts_l1 hl hi l.length 0 s (by omega) hs)
  · intro i s hin hs ih
    refine Ev.step (fun k => rfl) ?_
    simp only [spec_l02Parts.l0]
    rw [wrap_succ hin (by omega)]
    exact Ev.pos (by omega) (Ev.pos (by omega) (ih _ (by simp; omega)))
end
theorem one_ends (l : List Int) (hl : l.length ≤ 1000000) : Ev (fun k => spec_l02One.f k l) (fun _ => True) := by
  unfold spec_l02One.f
  refine Ev.up (g := fun k i => spec_l02One.l0 k l (i : Int)) (n := l.length) ?_ ?_ 0 (Nat.zero_le _)
  · refine Ev.step (fun k => rfl) ?_
    simp only [spec_l02One.l0]
    exact Ev.neg (by omega) (Ev.pure trivial)
  · intro i hi ih
    refine Ev.step (fun k => rfl) ?_
    simp only [spec_l02One.l0]
    rw [wrap_succ hi (by omega)]
    refine Ev.pos (by omega) (Ev.pos (by omega) ?_)
    by_cases h : rd l (i : Int) = 0
    · exact Ev.pos h ih
    · exact Ev.neg h (Ev.pure trivial)
theorem In.mono' {l : List Cell} {a b : Int} (h : In a l) (hab : a ≤ b) : In b l := fun c hc => by have := h c hc; omega
theorem connected_ends (l : List Cell) (hl : l.length ≤ 1000) : Ev (fun k => spec_IsConnected.f k l) (fun r => r = true → Sh l = true) := by
  unfold spec_IsConnected.f
  refine Ev.bindE (spec_IsShape_eq l (by omega)) ?_
  cases h : Sh l
  · exact Ev.neg (by simp) (Ev.pure (by simp))
  · have hi : In 1000000 l := fun c hc => by have := Sh_co h c hc; omega
    refine Ev.pos rfl ((parts_ends (by omega) hi).bind fun p hp => (one_ends p (by omega)).bind fun b _ => Ev.pure fun _ => rfl)
theorem code_ends (l : List Cell) (h : Sh l = true) : Ev (fun k => spec_l03Code.f k l) (fun _ => True) := by
  have hn := Sh_len h
  unfold spec_l03Code.f
  refine Ev.bindE (spec_IsShape_eq l (by omega)) ?_
  rw [h]
  refine Ev.pos rfl (Ev.bindE (l02Normal_eq l (fun e => by rw [e] at hn; simp at hn) (by omega) (fun c hc => by have := Sh_co h c hc; omega)) ?_)
  refine Ev.bindE (spec_IsShape_eq _ (by unfold normC; rw [movC_len]; omega)) ?_
  cases Sh (normC l)
  · exact Ev.neg (by simp) (Ev.pure trivial)
  · exact Ev.pos rfl (Ev.pure trivial)
theorem touch_ends (l : List Cell) (hl : l.length ≤ 1000) : Ev (fun k => spec_l23Touch.f k l) (fun _ => True) := by
  unfold spec_l23Touch.f
  refine Ev.up (g := fun k i => spec_l23Touch.l0 k l (i : Int)) (n := l.length) ?_ ?_ 0 (Nat.zero_le _)
  · refine Ev.step (fun k => rfl) ?_
    simp only [spec_l23Touch.l0]
    exact Ev.neg (by omega) (Ev.pure trivial)
  · intro i hi ih
    have join : ∀ (a b c : Bool) (x y : Int), Ev (fun k => spec_l23Touch.j1 k l (i : Int) a b c x y) (fun _ => True) := by
      intro a b c x y
      refine Ev.step (fun k => rfl) ?_
      simp only [spec_l23Touch.j1]
      rw [wrap_succ hi (by omega)]
      cases c
      · refine Ev.neg (by simp) ?_
        cases a
        · refine Ev.neg (by simp) ?_
          cases b
          · refine Ev.neg (by simp) (Ev.bindE (l02Index_eq l _ _ (by omega)) ?_)
            by_cases h : ixAt (wrap64 (x - 1), wrap64 (y + 1)) 0 l ≥ 0
            · exact Ev.pos h (Ev.pure trivial)
            · exact Ev.neg h ih
          · exact Ev.pos rfl ih
        · exact Ev.pos rfl ih
      · exact Ev.pos rfl (Ev.pure trivial)
    refine Ev.step (fun k => rfl) ?_
    simp only [spec_l23Touch.l0]
    refine Ev.pos (by omega) (Ev.pos (by omega) ?_)
    refine Ev.bindE (l02Index_eq l _ _ (by omega)) (Ev.bindE (l02Index_eq l _ _ (by omega)) (Ev.bindE (l02Index_eq l _ _ (by omega)) ?_))
    generalize ixAt (wrap64 ((rd_T42 l (i : Int)).f0 + 1), (rd_T42 l (i : Int)).f1) 0 l = t1
    generalize ixAt (wrap64 ((rd_T42 l (i : Int)).f0 - 1), (rd_T42 l (i : Int)).f1) 0 l = t2
    generalize ixAt ((rd_T42 l (i : Int)).f0, wrap64 ((rd_T42 l (i : Int)).f1 + 1)) 0 l = t3
    by_cases h1 : t1 ≥ 0
    · exact Ev.pos h1 (join _ _ _ _ _)
    · refine Ev.neg h1 ?_
      by_cases h3 : t3 ≥ 0
      · exact Ev.pos h3 (join _ _ _ _ _)
      · exact Ev.neg h3 (Ev.bindE (l02Index_eq l _ _ (by omega)) (join _ _ _ _ _))
theorem mx_in {a b lo hi : Int} (h1 : lo ≤ a ∧ a ≤ hi) (h2 : lo ≤ b ∧ b ≤ hi) : lo ≤ mx a b ∧ mx a b ≤ hi := by
  unfold mx
  split <;> omega
theorem size_ends (l : List Cell) (h : Sh l = true) : Ev (fun k => spec_l04Size.f k l) (fun r => (0 ≤ r.1 ∧ r.1 ≤ 201) ∧ 0 ≤ r.2 ∧ r.2 ≤ 201) := by
  have hn := Sh_len h
  have h0 : l ≠ [] := fun e => by rw [e] at hn; simp at hn
  have hi : In 100 l := fun c hc => Sh_co h c hc
  unfold spec_l04Size.f
  refine Ev.bindE (l02Least_eq l h0 (by omega)) ?_
  have hL := leastC_in h0 hi
  refine Ev.upS (g := fun k i (s : Int × Int) => spec_l04Size.l0 k l (leastC l).1 (leastC l).2 s.1 s.2 (i : Int)) (P := fun _ s => (0 ≤ s.1 ∧ s.1 ≤ 201) ∧ 0 ≤ s.2 ∧ s.2 ≤ 201) (n := l.length) ?_ ?_ 0 (0, 0) (Nat.zero_le _) (by simp)
  · rintro ⟨x, y⟩ hp
    refine Ev.step (fun k => rfl) ?_
    simp only [spec_l04Size.l0]
    exact Ev.neg (by omega) (Ev.pure hp)
  · rintro i ⟨x, y⟩ hil hp ih
    have hc := hi.at i hil
    have hle := leastC_le (l := l) _ (getD_mem0 l i z42 hil)
    refine Ev.step (fun k => rfl) ?_
    simp only [spec_l04Size.l0, rd_getD]
    rw [wrap_succ hil (by omega)]
    generalize l.getD i z42 = c at hc hle ⊢
    rw [w64 (n := c.f0 - (leastC l).1) (by omega) (by omega), w64 (n := c.f1 - (leastC l).2) (by omega) (by omega), w64 (n := c.f0 - (leastC l).1 + 1) (by omega) (by omega), w64 (n := c.f1 - (leastC l).2 + 1) (by omega) (by omega)]
    exact Ev.pos (by omega) (Ev.pos (by omega) (ih (_, _) ⟨mx_in hp.1 (by omega), mx_in hp.2 (by omega)⟩))
theorem holes_tail (l : List Cell) (hl : l.length ≤ 100000) (p : List Int) (hp : p.length = l.length) : Ev (fun k => spec_l06Holes.l2 k l p [] 1) (fun _ => True) := by
  have key : ∀ (d i : Nat) (s : List (List Cell)), 1 ≤ i → i + d = l.length + 1 → s.length ≤ i → Ev (fun k => spec_l06Holes.l2 k l p s (i : Int)) (fun _ => True) := by
    intro d
    induction d with
    | zero =>
      intro i s _ hd _
      refine Ev.step (fun k => rfl) ?_
      simp only [spec_l06Holes.l2]
      exact Ev.neg (by omega) (Ev.pure trivial)
    | succ d ih =>
      intro i s h1 hd hs
      refine Ev.step (fun k => rfl) ?_
      simp only [spec_l06Holes.l2]
      by_cases hil : i < l.length
      · have hw : wrap64 ((i : Int) + 1) = ((i + 1 : Nat) : Int) := wrap_succ hil (by omega)
        refine Ev.pos (by omega) (Ev.pos (by omega) (Ev.pos (by omega) ?_))
        by_cases hx : rd p (i : Int) = (i : Int)
        · refine Ev.pos hx ?_
          refine Ev.upS (g := fun k j t => spec_l06Holes.l3 k l p s (i : Int) t (j : Int)) (P := fun j t => t.length ≤ j) (n := l.length) ?_ ?_ i [] (by omega) (by simp)
          · intro t ht
            refine Ev.step (fun k => rfl) ?_
            simp only [spec_l06Holes.l3]
            rw [hw]
            exact Ev.neg (by omega) (Ev.pos (by omega) (ih (i + 1) _ (by omega) (by omega) (by simp; omega)))
          · intro j t hj ht ih2
            refine Ev.step (fun k => rfl) ?_
            simp only [spec_l06Holes.l3]
            rw [wrap_succ hj (by omega)]
            refine Ev.pos (by omega) (Ev.pos (by omega) (Ev.pos (by omega) ?_))
            by_cases hy : rd p (j : Int) = (i : Int)
            · exact Ev.pos hy (Ev.pos (by omega) (ih2 _ (by simp; omega)))
            · exact Ev.neg hy (ih2 _ (by omega))
        · rw [hw]
          exact Ev.neg hx (ih (i + 1) s (by omega) (by omega) (by omega))
      · exact Ev.neg (by omega) (Ev.pure trivial)
  by_cases h : 1 ≤ l.length + 1
  · exact key l.length 1 [] (by omega) (by omega) (by simp)
  · omega
theorem holes_ends (l : List Cell) (h : Sh l = true) : Ev (fun k => spec_l06Holes.f k l) (fun _ => True) := by
  have hn := Sh_len h
  have h0 : l ≠ [] := fun e => by rw [e] at hn; simp at hn
  have hi : In 100 l := fun c hc => Sh_co h c hc
  unfold spec_l06Holes.f
  refine Ev.bindE (l02Least_eq l h0 (by omega)) ?_
  have hL := leastC_in h0 hi
  generalize leastC l = p at hL ⊢
  obtain ⟨x, y⟩ := p
  refine (size_ends l h).bind ?_
  rintro ⟨wd, hg⟩ ⟨⟨w0, w1⟩, g0, g1⟩
  replace w0 : 0 ≤ wd := w0
  replace w1 : wd ≤ 201 := w1
  replace g0 : 0 ≤ hg := g0
  replace g1 : hg ≤ 201 := g1
  replace hL : (-100 ≤ x ∧ x ≤ 100) ∧ -100 ≤ y ∧ y ≤ 100 := hL
  have eb : wrap64 (y - 1) = y - 1 := w64 (by omega) (by omega)
  have ea : wrap64 (x - 1) = x - 1 := w64 (by omega) (by omega)
  have eh : wrap64 (y + hg) = y + hg := w64 (by omega) (by omega)
  have ew : wrap64 (x + wd) = x + wd := w64 (by omega) (by omega)
  have row : ∀ (b : Int) (f : List Cell), y - 1 ≤ b → b ≤ y + hg →
      (∀ f' : List Cell, f'.length ≤ f.length + 203 → In 2000 f' → Ev (fun k => spec_l06Holes.l0 k l x y wd hg f' (wrap64 (b + 1))) (fun _ => True)) → In 2000 f → f.length ≤ 5000000 →
      Ev (fun k => spec_l06Holes.l1 k l x y wd hg f b (x - 1)) (fun _ => True) := by
    intro b f hb0 hb1 cont hf hfl
    have key : ∀ (d : Nat) (a : Int) (f' : List Cell), a + d = x + wd + 1 → x - 1 ≤ a → f'.length + d ≤ f.length + 203 → In 2000 f' → Ev (fun k => spec_l06Holes.l1 k l x y wd hg f' b a) (fun _ => True) := by
      intro d
      induction d with
      | zero =>
        intro a f' hd _ hl' hf'
        refine Ev.step (fun k => rfl) ?_
        simp only [spec_l06Holes.l1]
        rw [ew]
        exact Ev.neg (by omega) (cont f' (by omega) hf')
      | succ d ih =>
        intro a f' hd ha hl' hf'
        refine Ev.step (fun k => rfl) ?_
        simp only [spec_l06Holes.l1]
        rw [ew, w64 (n := a + 1) (by omega) (by omega)]
        refine Ev.pos (by omega) (Ev.bindE (l02Index_eq l _ _ (by omega)) ?_)
        by_cases hx : ixAt (a, b) 0 l < 0
        · refine Ev.pos hx (Ev.pos (by omega) (ih (a + 1) _ (by omega) (by omega) (by simp; omega) ?_))
          intro c hc
          rcases List.mem_append.1 hc with hc | hc
          · exact hf' c hc
          · rw [List.mem_singleton.1 hc]
            simp only
            omega
        · exact Ev.neg hx (ih (a + 1) f' (by omega) (by omega) (by omega) hf')
    exact key (wd + 2).toNat (x - 1) f (by omega) (by omega) (by omega) hf
  have all : ∀ (d : Nat) (b : Int) (f : List Cell), b + d = y + hg + 1 → y - 1 ≤ b → f.length + 203 * d ≤ 41209 → In 2000 f → Ev (fun k => spec_l06Holes.l0 k l x y wd hg f b) (fun _ => True) := by
    intro d
    induction d with
    | zero =>
      intro b f hd _ hl' hf
      refine Ev.step (fun k => rfl) ?_
      simp only [spec_l06Holes.l0]
      rw [eh]
      exact Ev.neg (by omega) ((parts_ends (by omega) (hf.mono' (by omega))).bind fun p hp => holes_tail f (by omega) p hp)
    | succ d ih =>
      intro b f hd hb hl' hf
      refine Ev.step (fun k => rfl) ?_
      simp only [spec_l06Holes.l0]
      rw [eh, ea]
      refine Ev.pos (by omega) (row b f hb (by omega) (fun f' h1 h2 => ?_) hf (by omega))
      rw [w64 (n := b + 1) (by omega) (by omega)]
      exact ih (b + 1) f' (by omega) (by omega) (by omega) h2
  rw [eb]
  exact all (hg + 2).toNat (y - 1) [] (by omega) (by omega) (by simp; omega) (fun c hc => by cases hc)
theorem plain_ends (l : List Cell) (hl : l.length ≤ 1000) : Ev (fun k => spec_IsPlain.f k l) (fun r => r = true → Sh l = true) := by
  unfold spec_IsPlain.f
  refine (connected_ends l hl).bind ?_
  intro b hb
  cases b
  · exact Ev.neg (by simp) (Ev.pure (by simp))
  · have h := hb rfl
    refine Ev.pos rfl ((code_ends l h).bind ?_)
    intro c _
    by_cases h0 : c = 0
    · refine Ev.pos h0 ((touch_ends l hl).bind ?_)
      intro t _
      cases t
      · exact Ev.neg (by simp) ((holes_ends l h).bind fun p _ => Ev.pure fun _ => h)
      · exact Ev.pos rfl (Ev.pure (by simp))
    · exact Ev.neg h0 (Ev.pure (by simp))
/-- A list without repetition whose members lie in another one is not longer. -/
theorem nodup_le {α : Type} [DecidableEq α] : ∀ (a b : List α), a.Nodup → (∀ x ∈ a, x ∈ b) → a.length ≤ b.length
  | [], b, _, _ => Nat.zero_le _
  | x :: r, b, hn, hs => by
    obtain ⟨h1, h2⟩ := List.nodup_cons.1 hn
    have hx := hs x List.mem_cons_self
    have ih := nodup_le r (b.erase x) h2 (fun y hy => (List.mem_erase_of_ne (fun e => h1 (by rw [← e]; exact hy))).2 (hs y (List.mem_cons_of_mem _ hy)))
    rw [List.length_erase_of_mem hx] at ih
    have := List.length_pos_of_mem hx
    simp only [List.length_cons]
    omega
/-- A law that is one-to-one comes back to where it began, within as many steps as there are places. -/
theorem comes_back {α : Type} [DecidableEq α] (f : α → α) (B : List α) (hB : ∀ x ∈ B, f x ∈ B) (inj : ∀ x ∈ B, ∀ y ∈ B, f x = f y → x = y) (e : α) (he : e ∈ B) (it : Nat → α) (h0 : it 0 = e) (hs : ∀ n, it (n + 1) = f (it n)) :
    ∃ n, 1 ≤ n ∧ n ≤ B.length ∧ it n = e := by
  have hin : ∀ n, it n ∈ B := by
    intro n
    induction n with
    | zero => rw [h0]; exact he
    | succ n ih => rw [hs]; exact hB _ ih
  apply Classical.byContradiction
  intro hno
  have back : ∀ i j, it i = it (i + j) → it 0 = it j := by
    intro i
    induction i with
    | zero => intro j h; rw [Nat.zero_add] at h; exact h
    | succ i ih =>
      intro j h
      rw [show i + 1 + j = (i + j) + 1 by omega, hs, hs] at h
      exact ih j (inj _ (hin _) _ (hin _) h)
  have hnd : ((List.range (B.length + 1)).map it).Nodup := by
    rw [List.nodup_iff_pairwise_ne, List.pairwise_map]
    refine List.Pairwise.imp_of_mem ?_ (List.pairwise_lt_range (n := B.length + 1))
    intro i j hi hj hij heq
    rw [List.mem_range] at hi hj
    refine hno ⟨j - i, by omega, by omega, ?_⟩
    have := back i (j - i) (by rw [show i + (j - i) = j by omega]; exact heq)
    rw [← this, h0]
  have := nodup_le _ B hnd (fun x hx => by
    obtain ⟨i, _, rfl⟩ := List.mem_map.1 hx
    exact hin i)
  rw [List.length_map, List.length_range] at this
  omega

/-- The four cells around a point, the steps, and the next edge. -/
def stp (d : Nat) : Int × Int := match d with | 0 => (1, 0) | 1 => (0, 1) | 2 => (-1, 0) | _ => (0, -1)
def ahd (x y : Int) (d : Nat) : Cell := match d with | 0 => ⟨x, y - 1⟩ | 1 => ⟨x, y⟩ | 2 => ⟨x - 1, y⟩ | _ => ⟨x - 1, y - 1⟩
abbrev Edge := Int × Int × Nat
def goto_ (e : Edge) : Int × Int := (e.1 + (stp e.2.2).1, e.2.1 + (stp e.2.2).2)
/-- The direction behind an edge. -/
def nxt (l : List Cell) (e : Edge) : Edge :=
  let x := (goto_ e).1
  let y := (goto_ e).2
  (x, y, if ahd x y e.2.2 ∈ l then (e.2.2 + 3) % 4 else if ahd x y ((e.2.2 + 1) % 4) ∉ l then (e.2.2 + 1) % 4 else e.2.2)
/-- The cell to the right of an edge, and the one to its left. -/
def rgt (e : Edge) : Cell := ahd e.1 e.2.1 ((e.2.2 + 1) % 4)
def lft (e : Edge) : Cell := ahd e.1 e.2.1 e.2.2
def Bnd (l : List Cell) (e : Edge) : Prop := e.2.2 < 4 ∧ rgt e ∈ l ∧ lft e ∉ l
theorem behind (e : Edge) (h : e.2.2 < 4) : rgt e = ahd (goto_ e).1 (goto_ e).2 ((e.2.2 + 2) % 4) ∧ lft e = ahd (goto_ e).1 (goto_ e).2 ((e.2.2 + 3) % 4) := by
  obtain ⟨x, y, d⟩ := e
  replace h : d < 4 := h
  have : d = 0 ∨ d = 1 ∨ d = 2 ∨ d = 3 := by omega
  rcases this with rfl | rfl | rfl | rfl <;> (simp only [rgt, lft, ahd, goto_, stp]; constructor <;> (congr 1 <;> omega))
theorem nxt_bnd {l : List Cell} {e : Edge} (h : Bnd l e) : Bnd l (nxt l e) := by
  obtain ⟨hd, hr, hl⟩ := h
  have hb := behind e hd
  rw [hb.1] at hr
  rw [hb.2] at hl
  obtain ⟨x, y, d⟩ := e
  replace hd : d < 4 := hd
  unfold nxt Bnd rgt lft
  generalize goto_ (x, y, d) = p at hr hl ⊢
  obtain ⟨px, py⟩ := p
  simp only at hr hl ⊢
  by_cases h1 : ahd px py d ∈ l
  · rw [if_pos h1]
    refine ⟨by omega, ?_, hl⟩
    rw [show ((d + 3) % 4 + 1) % 4 = d by omega]
    exact h1
  · rw [if_neg h1]
    by_cases h2 : ahd px py ((d + 1) % 4) ∉ l
    · rw [if_pos h2]
      refine ⟨by omega, ?_, h2⟩
      rw [show ((d + 1) % 4 + 1) % 4 = (d + 2) % 4 by omega]
      exact hr
    · rw [if_neg h2]
      exact ⟨hd, Classical.byContradiction h2, h1⟩
/-- What the direction behind an edge tells of the cells around the point. -/
theorem nxt_cases {l : List Cell} {e : Edge} (h : Bnd l e) (d' : Nat) (hd' : (nxt l e).2.2 = d') :
    (e.2.2 = (d' + 1) % 4 ∧ ahd (goto_ e).1 (goto_ e).2 ((d' + 3) % 4) ∈ l) ∨ (e.2.2 = d' ∧ ahd (goto_ e).1 (goto_ e).2 ((d' + 2) % 4) ∈ l ∧ ahd (goto_ e).1 (goto_ e).2 ((d' + 3) % 4) ∉ l) ∨ (e.2.2 = (d' + 3) % 4 ∧ ahd (goto_ e).1 (goto_ e).2 ((d' + 2) % 4) ∉ l ∧ ahd (goto_ e).1 (goto_ e).2 ((d' + 3) % 4) ∉ l) := by
  obtain ⟨hd, hr, hl⟩ := h
  have hb := behind e hd
  rw [hb.1] at hr
  rw [hb.2] at hl
  obtain ⟨x, y, d⟩ := e
  replace hd : d < 4 := hd
  unfold nxt at hd'
  generalize goto_ (x, y, d) = p at hr hl hd' ⊢
  obtain ⟨px, py⟩ := p
  simp only at hr hl hd' ⊢
  by_cases h1 : ahd px py d ∈ l
  · rw [if_pos h1] at hd'
    left
    refine ⟨by omega, ?_⟩
    rw [show (d' + 3) % 4 = (d + 2) % 4 by omega]
    exact hr
  · rw [if_neg h1] at hd'
    by_cases h2 : ahd px py ((d + 1) % 4) ∉ l
    · rw [if_pos h2] at hd'
      right; right
      refine ⟨by omega, ?_, ?_⟩
      · rw [show (d' + 2) % 4 = (d + 3) % 4 by omega]; exact hl
      · rw [show (d' + 3) % 4 = d by omega]; exact h1
    · rw [if_neg h2] at hd'
      right; left
      subst hd'
      exact ⟨rfl, hr, hl⟩
theorem goto_inj {e e' : Edge} (h : goto_ e = goto_ e') (hd : e.2.2 = e'.2.2) : e = e' := by
  obtain ⟨x, y, d⟩ := e
  obtain ⟨x', y', d'⟩ := e'
  simp only at hd
  subst hd
  obtain ⟨h1, h2⟩ := Prod.mk.inj h
  replace h1 : x + (stp d).1 = x' + (stp d).1 := h1
  replace h2 : y + (stp d).2 = y' + (stp d).2 := h2
  have e1 : x = x' := by omega
  have e2 : y = y' := by omega
  rw [e1, e2]
theorem nxt_inj {l : List Cell} {e e' : Edge} (h : Bnd l e) (h' : Bnd l e') (heq : nxt l e = nxt l e') : e = e' := by
  have hp : goto_ e = goto_ e' := by
    have h1 := congrArg (fun z => z.1) heq
    have h2 := congrArg (fun z => z.2.1) heq
    exact Prod.ext h1 h2
  have c := nxt_cases h _ rfl
  have c' := nxt_cases h' _ rfl
  rw [heq, hp] at c
  refine goto_inj hp ?_
  rcases c with ⟨a, b⟩ | ⟨a, b, b2⟩ | ⟨a, b, b2⟩ <;> rcases c' with ⟨a', b'⟩ | ⟨a', b', b2'⟩ | ⟨a', b', b2'⟩ <;> (first | (rw [a, a']; done) | (exact absurd b b2') | (exact absurd b' b2) | (exact absurd b b') | (exact absurd b' b))
/-- All edges of a list of cells. -/
def mkE (d : Nat) (c : Cell) : Edge := match d with | 0 => (c.f0, c.f1, 0) | 1 => (c.f0 + 1, c.f1, 1) | 2 => (c.f0 + 1, c.f1 + 1, 2) | _ => (c.f0, c.f1 + 1, 3)
theorem mkE_rgt (e : Edge) (h : e.2.2 < 4) : mkE e.2.2 (rgt e) = e := by
  obtain ⟨x, y, d⟩ := e
  replace h : d < 4 := h
  have : d = 0 ∨ d = 1 ∨ d = 2 ∨ d = 3 := by omega
  rcases this with rfl | rfl | rfl | rfl <;> simp [mkE, rgt, ahd]
instance (l : List Cell) (e : Edge) : Decidable (Bnd l e) := by unfold Bnd; exact inferInstance
def bnds (l : List Cell) : List Edge := ((List.range 4).flatMap fun d => l.map (mkE d)).filter (fun e => decide (Bnd l e))
theorem bnds_mem {l : List Cell} {e : Edge} : e ∈ bnds l ↔ Bnd l e := by
  unfold bnds
  rw [List.mem_filter]
  simp only [decide_eq_true_eq]
  constructor
  · exact fun h => h.2
  · intro h
    refine ⟨?_, h⟩
    rw [List.mem_flatMap]
    exact ⟨e.2.2, List.mem_range.2 h.1, List.mem_map.2 ⟨rgt e, h.2.1, mkE_rgt e h.1⟩⟩
theorem bnds_len (l : List Cell) : (bnds l).length ≤ 4 * l.length := by
  unfold bnds
  refine Nat.le_trans (List.length_filter_le _ _) ?_
  simp [List.range_succ]
  omega
def itE (l : List Cell) (e : Edge) : Nat → Edge
  | 0 => e
  | n + 1 => nxt l (itE l e n)
theorem itE_bnd {l : List Cell} {e : Edge} (h : Bnd l e) : ∀ n, Bnd l (itE l e n)
  | 0 => h
  | n + 1 => nxt_bnd (itE_bnd h n)
theorem round {l : List Cell} {e : Edge} (h : Bnd l e) : ∃ n, 1 ≤ n ∧ n ≤ 4 * l.length ∧ itE l e n = e := by
  obtain ⟨n, h1, h2, h3⟩ := comes_back (nxt l) (bnds l) (fun x hx => bnds_mem.2 (nxt_bnd (bnds_mem.1 hx))) (fun x hx y hy => nxt_inj (bnds_mem.1 hx) (bnds_mem.1 hy)) e (bnds_mem.2 h) (itE l e) rfl (fun n => rfl)
  exact ⟨n, h1, Nat.le_trans h2 (bnds_len l), h3⟩
theorem steps_rd (d : Nat) (h : d < 4) : rd_T42 ([(⟨1, 0⟩ : S42), (⟨0, 1⟩ : S42), (⟨(-1), 0⟩ : S42), (⟨0, (-1)⟩ : S42)] : List Cell) (d : Int) = ⟨(stp d).1, (stp d).2⟩ := by
  have : d = 0 ∨ d = 1 ∨ d = 2 ∨ d = 3 := by omega
  rcases this with rfl | rfl | rfl | rfl <;> rfl
theorem ahead_rd (x y : Int) (hx : -1000000 ≤ x ∧ x ≤ 1000000) (hy : -1000000 ≤ y ∧ y ≤ 1000000) (d : Nat) (h : d < 4) :
    rd_T42 ([(⟨x, wrap64 (y - 1)⟩ : S42), (⟨x, y⟩ : S42), (⟨wrap64 (x - 1), y⟩ : S42), (⟨wrap64 (x - 1), wrap64 (y - 1)⟩ : S42)] : List Cell) (d : Int) = ahd x y d := by
  rw [w64 (n := y - 1) (by omega) (by omega), w64 (n := x - 1) (by omega) (by omega)]
  have : d = 0 ∨ d = 1 ∨ d = 2 ∨ d = 3 := by omega
  rcases this with rfl | rfl | rfl | rfl <;> rfl
theorem turn_mod {d a : Nat} (h : d < 4) (ha : a ≤ 3) : Int.tmod (wrap64 ((d : Int) + (a : Int))) 4 = (((d + a) % 4 : Nat) : Int) := by
  rw [w64 (by omega) (by omega), Int.tmod_eq_emod_of_nonneg (by omega)]
  omega
theorem ahd_in {x y : Int} {d : Nat} {b : Int} (h : (-b ≤ (ahd x y d).f0 ∧ (ahd x y d).f0 ≤ b) ∧ -b ≤ (ahd x y d).f1 ∧ (ahd x y d).f1 ≤ b) : (-b ≤ x ∧ x ≤ b + 1) ∧ -b ≤ y ∧ y ≤ b + 1 := by
  unfold ahd at h
  split at h <;> simp only at h <;> omega
/-- One round of the walk: it comes to its end, or goes on at the next edge. -/
theorem word_go {l : List Cell} (hl : l.length ≤ 1000) (hi : In 1000 l) {sx sy : Int} {e0 : Edge} (he0 : e0.1 = sx ∧ e0.2.1 = sy) {Q : ByteArray → Prop}
    (hQ : ∀ o : List Int, o.length ≤ 5000 → Q (strOfNums o)) :
    ∀ (n : Nat) (e : Edge) (o : List Int), Bnd l e → itE l e n = e0 → 1 ≤ n → o.length + n ≤ 5000 → Ev (fun k => spec_l23Word.l0 k l o (e.2.2 : Int) sx sy e.1 e.2.1) Q := by
  intro n
  induction n with
  | zero => intro e o _ _ h; omega
  | succ n ih =>
    intro e o hb hit _ ho
    have hr := ahd_in (hi _ hb.2.1)
    obtain ⟨x, y, d⟩ := e
    have hd : d < 4 := hb.1
    replace hr : (-1000 ≤ x ∧ x ≤ 1000 + 1) ∧ -1000 ≤ y ∧ y ≤ 1000 + 1 := hr
    have hst : (-1 ≤ (stp d).1 ∧ (stp d).1 ≤ 1) ∧ -1 ≤ (stp d).2 ∧ (stp d).2 ≤ 1 := by
      unfold stp
      split <;> simp
    have hnx : nxt l (x, y, d) = (x + (stp d).1, y + (stp d).2, (nxt l (x, y, d)).2.2) := rfl
    have hit2 : itE l (nxt l (x, y, d)) n = e0 := by
      have sw : ∀ m (q : Edge), itE l q (m + 1) = itE l (nxt l q) m := by
        intro m
        induction m with
        | zero => intro q; rfl
        | succ m ihm => intro q; exact congrArg (nxt l) (ihm q)
      rw [← sw]; exact hit
    refine Ev.step (fun k => rfl) ?_
    simp only [spec_l23Word.l0, Option.bind_some, steps_rd d hd]
    rw [w64 (n := x + (stp d).1) (by omega) (by omega), w64 (n := y + (stp d).2) (by omega) (by omega)]
    have hx1 : -1000000 ≤ x + (stp d).1 ∧ x + (stp d).1 ≤ 1000000 := by omega
    have hy1 : -1000000 ≤ y + (stp d).2 ∧ y + (stp d).2 ≤ 1000000 := by omega
    have hdm : (d + 1) % 4 < 4 := by omega
    have t1 : Int.tmod (wrap64 ((d : Int) + 1)) 4 = (((d + 1) % 4 : Nat) : Int) := turn_mod (a := 1) hd (by omega)
    have t3 : Int.tmod (wrap64 ((d : Int) + 3)) 4 = (((d + 3) % 4 : Nat) : Int) := turn_mod (a := 3) hd (by omega)
    rw [t1, t3, ahead_rd _ _ hx1 hy1 d hd, ahead_rd _ _ hx1 hy1 ((d + 1) % 4) hdm]
    clear t1 t3
    have hd4 : (d : Int) < ((4 : Nat) : Int) := by omega
    have hd5 : ((((d + 1) % 4 : Nat)) : Int) < ((4 : Nat) : Int) := by omega
    refine Ev.pos (by omega) (Ev.pos (by omega) (Ev.pos (by omega) (Ev.pos hd4 ?_)))
    by_cases hend : (x + (stp d).1 == sx && y + (stp d).2 == sy) = true
    · exact Ev.pos hend (Ev.pure (hQ _ (by simp; omega)))
    · refine Ev.neg hend (Ev.pos hd4 (Ev.pos (by omega) (Ev.pos hd5 ?_)))
      have hn1 : 1 ≤ n := by
        rcases Nat.eq_zero_or_pos n with h0 | h0
        · exfalso
          subst h0
          have e1 : nxt l (x, y, d) = e0 := hit2
          rw [hnx] at e1
          rw [← e1] at he0
          apply hend
          obtain ⟨q1, q2⟩ := he0
          simp only at q1 q2
          rw [q1, q2]
          simp
        · exact h0
      have go := ih (nxt l (x, y, d)) (o ++ [bt (⟨#[114, 100, 108, 117]⟩ : ByteArray) (d : Int)]) (nxt_bnd hb) hit2 hn1 (by simp; omega)
      rw [hnx] at go
      have hx1 := ixAt_lt (ahd (x + (stp d).1) (y + (stp d).2) d) l
      have hx2 := ixAt_lt (ahd (x + (stp d).1) (y + (stp d).2) ((d + 1) % 4)) l
      have hdd : (nxt l (x, y, d)).2.2 = if ahd (x + (stp d).1) (y + (stp d).2) d ∈ l then (d + 3) % 4 else if ahd (x + (stp d).1) (y + (stp d).2) ((d + 1) % 4) ∉ l then (d + 1) % 4 else d := rfl
      rw [hdd] at go
      refine Ev.bindE (l02Index_eq l _ _ (by omega)) ?_
      by_cases h1 : ahd (x + (stp d).1) (y + (stp d).2) d ∈ l
      · rw [if_pos h1] at go
        exact Ev.pos (Int.not_lt.1 (fun h => hx1.1 h h1)) go
      · rw [if_neg h1] at go
        refine Ev.neg (fun h => by have := hx1.2 h1; omega) (Ev.bindE (l02Index_eq l _ _ (by omega)) ?_)
        by_cases h2 : ahd (x + (stp d).1) (y + (stp d).2) ((d + 1) % 4) ∉ l
        · rw [if_pos h2] at go
          exact Ev.pos (hx2.2 h2) go
        · rw [if_neg h2] at go
          exact Ev.neg (fun h => h2 (hx2.1 h)) go
/-- In a shape nothing stands above the first cell. -/
theorem above_first {l : List Cell} (h : Sh l = true) : (⟨(l.getD 0 z42).f0, (l.getD 0 z42).f1 - 1⟩ : Cell) ∉ l := by
  have hn := Sh_len h
  have hall : ∀ i, i < l.length → (l.getD 0 z42).f1 ≤ (l.getD i z42).f1 := by
    unfold Sh at h
    simp only [Bool.and_eq_true, decide_eq_true_eq] at h
    intro i
    induction i with
    | zero => intro _; exact Int.le_refl _
    | succ i ih =>
      intro hi
      have h2 := allF_true.1 h.1 (i + 1) (Nat.zero_le _) hi
      unfold shOk lessC at h2
      simp only [Bool.and_eq_true, Bool.or_eq_true, decide_eq_true_eq, Nat.add_sub_cancel] at h2
      have := ih (by omega)
      rcases h2.2 with h3 | h3 | h3
      · omega
      · omega
      · omega
  intro hm
  obtain ⟨i, hi, he⟩ := List.getElem_of_mem hm
  have := hall i hi
  have e2 : (l.getD i z42) = l[i] := by simp [List.getD_eq_getElem?_getD, List.getElem?_eq_getElem hi]
  rw [e2, he] at this
  simp only at this
  omega
theorem word_ends (l : List Cell) (h : Sh l = true) : Ev (fun k => spec_l23Word.f k l) (fun w => ∃ o : List Int, o.length ≤ 5000 ∧ w = strOfNums o) := by
  have hn := Sh_len h
  have hi : In 1000 l := fun c hc => by have := Sh_co h c hc; omega
  have hb : Bnd l ((l.getD 0 z42).f0, (l.getD 0 z42).f1, 0) := by
    refine ⟨by simp, ?_, above_first h⟩
    show (⟨(l.getD 0 z42).f0, (l.getD 0 z42).f1⟩ : Cell) ∈ l
    exact getD_mem0 l 0 z42 (by omega)
  obtain ⟨n, h1, h2, h3⟩ := round hb
  unfold spec_l23Word.f
  have e0 : rd_T42 l 0 = l.getD 0 z42 := rd_getD l 0
  rw [e0]
  exact Ev.pos (by omega) (word_go (by omega) hi (e0 := ((l.getD 0 z42).f0, (l.getD 0 z42).f1, 0)) ⟨rfl, rfl⟩ (fun o ho => ⟨o, ho, rfl⟩) n _ [] hb h3 h1 (by simp; omega))
theorem strOf_size (o : List Int) : (strOfNums o).size = o.length := by
  simp [strOfNums, ByteArray.size]
def Wd (l : List Int) (r : ByteArray × Int × Int) : Prop := r.1.size ≤ 5000 ∧ Src l r.2.1 r.2.2
theorem letters_rd (j : Nat) (h : j < 4) : (rdOf ByteArray.empty ([(⟨#[114]⟩ : ByteArray), (⟨#[100]⟩ : ByteArray), (⟨#[108]⟩ : ByteArray), (⟨#[117]⟩ : ByteArray)] : List ByteArray) (j : Int)).size = 1 := by
  have : j = 0 ∨ j = 1 ∨ j = 2 ∨ j = 3 := by omega
  rcases this with rfl | rfl | rfl | rfl <;> rfl
theorem fill_ends {l : List Int} (hb : Bytes l) : ∀ (d : Nat) (w : ByteArray) (a s : Int), 300 - w.size ≤ d → w.size ≤ 300 → Src l a s → Ev (fun k => spec_l23Draw.l1 k w l a s) (Wd l) := by
  intro d
  induction d with
  | zero =>
    intro w a s h1 h2 hs
    obtain ⟨r, a', s', hr, hs', r0, r1, _⟩ := next_ok hb hs 2 (by omega)
    have r2 := r1 (by omega)
    refine Ev.step (fun k => rfl) ?_
    simp only [spec_l23Draw.l1, hr, Option.bind_some]
    rw [w64 (n := 200 + r) (by omega) (by omega)]
    exact Ev.neg (by omega) (Ev.pure ⟨by show w.size ≤ 5000; omega, hs'⟩)
  | succ d ih =>
    intro w a s h1 h2 hs
    obtain ⟨r, a', s', hr, hs', r0, r1, _⟩ := next_ok hb hs 2 (by omega)
    have r2 := r1 (by omega)
    refine Ev.step (fun k => rfl) ?_
    simp only [spec_l23Draw.l1, hr, Option.bind_some]
    rw [w64 (n := 200 + r) (by omega) (by omega)]
    by_cases hc : (w.size : Int) < 200 + r
    · have e : (w ++ (⟨#[114]⟩ : ByteArray)).size = w.size + 1 := by rw [ByteArray.size_append]; rfl
      exact Ev.pos hc (Ev.pos (by omega) (ih _ _ _ (by rw [e]; omega) (by rw [e]; omega) hs'))
    · exact Ev.neg hc (Ev.pure ⟨by show w.size ≤ 5000; omega, hs'⟩)
theorem rand_ends {l : List Int} (hb : Bytes l) : ∀ (n : Nat) (w : ByteArray) (a s : Int), w.size + n ≤ 100 → Src l a s → Ev (fun k => spec_l23Draw.l0 k w (n : Int) l a s) (Wd l) := by
  intro n
  induction n with
  | zero =>
    intro w a s h1 hs
    obtain ⟨r, a', s', hr, hs', r0, r1, _⟩ := next_ok hb hs 12 (by omega)
    refine Ev.step (fun k => rfl) ?_
    simp only [spec_l23Draw.l0, hr, Option.bind_some]
    refine Ev.neg (by omega) ?_
    by_cases h0 : r = 0
    · have e : (w ++ (⟨#[120]⟩ : ByteArray)).size = w.size + 1 := by rw [ByteArray.size_append]; rfl
      exact Ev.pos h0 (Ev.pos (by omega) (Ev.pure ⟨by show (w ++ (⟨#[120]⟩ : ByteArray)).size ≤ 5000; rw [e]; omega, hs'⟩))
    · refine Ev.neg h0 ?_
      by_cases h2 : r = 1
      · exact Ev.pos h2 (fill_ends hb 300 w a' s' (by omega) (by omega) hs')
      · exact Ev.neg h2 (Ev.pure ⟨by show w.size ≤ 5000; omega, hs'⟩)
  | succ n ih =>
    intro w a s h1 hs
    obtain ⟨r, a', s', hr, hs', r0, r1, _⟩ := next_ok hb hs 4 (by omega)
    have r2 := r1 (by omega)
    obtain ⟨j, rfl⟩ : ∃ j : Nat, r = (j : Int) := ⟨r.toNat, by omega⟩
    refine Ev.step (fun k => rfl) ?_
    simp only [spec_l23Draw.l0, hr, Option.bind_some]
    have hl := letters_rd j (by omega)
    have hj4 : (j : Int) < ((4 : Nat) : Int) := by omega
    refine Ev.pos (by omega) (Ev.pos r0 (Ev.pos hj4 ?_))
    generalize rdOf ByteArray.empty ([(⟨#[114]⟩ : ByteArray), (⟨#[100]⟩ : ByteArray), (⟨#[108]⟩ : ByteArray), (⟨#[117]⟩ : ByteArray)] : List ByteArray) (j : Int) = c at hl ⊢
    refine Ev.pos (by omega) ?_
    have ew : wrap64 (((n + 1 : Nat) : Int) - 1) = (n : Int) := by rw [w64 (by omega) (by omega)]; omega
    rw [ew]
    exact ih _ _ _ (by rw [ByteArray.size_append]; omega) hs'
theorem other_ends {l : List Int} (hb : Bytes l) {a s : Int} (hs : Src l a s) : Ev (fun k => spec_l23Draw.j0 k l a s) (Wd l) := by
  obtain ⟨r, a', s', hr, hs', r0, r1, _⟩ := next_ok hb hs 12 (by omega)
  have r2 := r1 (by omega)
  obtain ⟨j, rfl⟩ : ∃ j : Nat, r = (j : Int) := ⟨r.toNat, by omega⟩
  refine Ev.step (fun k => rfl) ?_
  simp only [spec_l23Draw.j0, hr, Option.bind_some]
  exact rand_ends hb j _ a' s' (by have : (⟨#[]⟩ : ByteArray).size = 0 := rfl; omega) hs'
theorem draw_word_ends {l : List Int} (hb : Bytes l) {a s : Int} (hs : Src l a s) : Ev (fun k => spec_l23Draw.f k l a s) (Wd l) := by
  obtain ⟨r, a', s', hr, hs', r0, r1, _⟩ := next_ok hb hs 3 (by omega)
  unfold spec_l23Draw.f
  simp only [hr, Option.bind_some]
  by_cases h0 : r > 0
  · refine Ev.pos h0 ?_
    obtain ⟨sh, a2, s2, hp, hs2, _, hlen, _⟩ := poly_ok hb hs' 8 (by omega) (by omega)
    refine Ev.bindE hp ((plain_ends sh (by omega)).bind ?_)
    intro b hbq
    cases b
    · exact Ev.neg (by simp) (other_ends hb hs2)
    · refine Ev.pos rfl ((word_ends sh (hbq rfl)).bind ?_)
      rintro w ⟨o, ho, rfl⟩
      exact Ev.pure ⟨by show (strOfNums o).size ≤ 5000; rw [strOf_size]; exact ho, hs2⟩
  · exact Ev.neg h0 (other_ends hb hs')
end Go.Proofs.YtcgnnfaemjjljaaDoor.Pure
