/- What a function with rounds answers when the rounds are many enough; how loops are told; no condition. -/
import Derived.Test.YtjgnlakgojookaaQ0
import Derived.Test.YtjgnlakgojookaaOpn
namespace Go.Proofs.Ytjgnlakgojookaa.Pure
open Go.RowKit
set_option linter.unusedVariables false
set_option linter.unusedSimpArgs false

/-- From some number of rounds on, g answers r. -/
def Evt {α : Type} (g : Nat → Option α) (r : α) : Prop := ∃ K, ∀ k, K ≤ k → g k = some r
theorem Evt.out {α : Type} {g : Nat → Option α} {r : α} (h : Evt g r) : ∃ k, g k = some r := by
  obtain ⟨K, h⟩ := h
  exact ⟨K, h K (Nat.le_refl _)⟩
theorem Evt.pure {α : Type} {r : α} : Evt (fun _ => some r) r := ⟨0, fun _ _ => rfl⟩
theorem Evt.const {α : Type} {o : Option α} {r : α} (h : o = some r) : Evt (fun _ => o) r := ⟨0, fun _ _ => h⟩
theorem Evt.of_eq {α : Type} {g g' : Nat → Option α} {r : α} (e : ∀ k, g' k = g k) (h : Evt g r) : Evt g' r := by
  obtain ⟨K, h⟩ := h
  exact ⟨K, fun k hk => (e k).trans (h k hk)⟩
theorem Evt.bind {α β : Type} {g : Nat → Option α} {f : Nat → α → Option β} {a : α} {r : β} (h : Evt g a) (h2 : Evt (fun k => f k a) r) : Evt (fun k => (g k).bind (f k)) r := by
  obtain ⟨K, h⟩ := h
  obtain ⟨K2, h2⟩ := h2
  refine ⟨K + K2, fun k hk => ?_⟩
  show (g k).bind (f k) = some r
  rw [h k (by omega)]
  exact h2 k (by omega)
/-- One round. -/
theorem Evt.step {α : Type} {g h : Nat → Option α} {r : α} (e : ∀ k, g (k + 1) = h k) (hh : Evt h r) : Evt g r := by
  obtain ⟨K, hh⟩ := hh
  refine ⟨K + 1, fun k hk => ?_⟩
  obtain ⟨m, rfl⟩ : ∃ m, k = m + 1 := ⟨k - 1, by omega⟩
  rw [e m]
  exact hh m (by omega)
theorem Evt.ite_pos {α : Type} {c : Prop} [Decidable c] {g h : Nat → Option α} {r : α} (hc : c) (hg : Evt g r) : Evt (fun k => if c then g k else h k) r := Evt.of_eq (fun k => if_pos hc) hg
theorem Evt.ite_neg {α : Type} {c : Prop} [Decidable c] {g h : Nat → Option α} {r : α} (hc : ¬ c) (hg : Evt h r) : Evt (fun k => if c then g k else h k) r := Evt.of_eq (fun k => if_neg hc) hg
theorem Evt.unique {α : Type} {g : Nat → Option α} {r r' : α} (h : Evt g r) (h' : Evt g r') : r = r' := by
  obtain ⟨K, h⟩ := h
  obtain ⟨K', h'⟩ := h'
  have a := h (K + K') (by omega)
  have b := h' (K + K') (by omega)
  rw [a] at b
  exact Option.some.inj b
/-- A loop that counts up to n: told from its end. -/
theorem Evt.up {α : Type} {g : Nat → Nat → Option α} {R : Nat → α} {n : Nat} (hend : Evt (fun k => g k n) (R n)) (hstep : ∀ i, i < n → Evt (fun k => g k (i + 1)) (R (i + 1)) → Evt (fun k => g k i) (R i)) : ∀ i, i ≤ n → Evt (fun k => g k i) (R i) := by
  intro i hi
  obtain ⟨d, hd⟩ : ∃ d, n = i + d := ⟨n - i, by omega⟩
  induction d generalizing i with
  | zero => have e : i = n := by omega
            rw [e]; exact hend
  | succ d ih => exact hstep i (by omega) (ih (i + 1) (by omega) (by omega))
/-- The same with a state. -/
theorem Evt.upS {α σ : Type} {g : Nat → Nat → σ → Option α} {R : Nat → σ → α} {P : Nat → σ → Prop} {n : Nat} (hend : ∀ s, P n s → Evt (fun k => g k n s) (R n s))
    (hstep : ∀ i s, i < n → P i s → (∀ s', P (i + 1) s' → Evt (fun k => g k (i + 1) s') (R (i + 1) s')) → Evt (fun k => g k i s) (R i s)) : ∀ i s, i ≤ n → P i s → Evt (fun k => g k i s) (R i s) := by
  intro i s hi hp
  obtain ⟨d, hd⟩ : ∃ d, n = i + d := ⟨n - i, by omega⟩
  induction d generalizing i s with
  | zero => have e : i = n := by omega
            rw [e] at hp ⊢; exact hend s hp
  | succ d ih => exact hstep i s (by omega) hp (fun s' hp' => ih (i + 1) s' (by omega) hp' (by omega))

/-- Two functions with rounds answer the same. -/
def Both {α : Type} (g h : Nat → Option α) : Prop := ∃ r, Evt g r ∧ Evt h r
theorem Both.of {α : Type} {g h : Nat → Option α} {r : α} (a : Evt g r) (b : Evt h r) : Both g h := ⟨r, a, b⟩
theorem Both.stepl {α : Type} {g g' h : Nat → Option α} (e : ∀ k, g (k + 1) = g' k) (b : Both g' h) : Both g h := by
  obtain ⟨r, a, b⟩ := b
  exact ⟨r, a.step e, b⟩
theorem Both.stepr {α : Type} {g h h' : Nat → Option α} (e : ∀ k, h (k + 1) = h' k) (b : Both g h') : Both g h := by
  obtain ⟨r, a, b⟩ := b
  exact ⟨r, a, b.step e⟩
theorem Both.eql {α : Type} {g g' h : Nat → Option α} (e : ∀ k, g k = g' k) (b : Both g' h) : Both g h := by
  obtain ⟨r, a, b⟩ := b
  exact ⟨r, a.of_eq e, b⟩
theorem Both.eqr {α : Type} {g h h' : Nat → Option α} (e : ∀ k, h k = h' k) (b : Both g h') : Both g h := by
  obtain ⟨r, a, b⟩ := b
  exact ⟨r, a, b.of_eq e⟩
theorem Both.bindl {α β : Type} {g : Nat → Option β} {f : Nat → β → Option α} {h : Nat → Option α} {x : β} (e : Evt g x) (b : Both (fun k => f k x) h) : Both (fun k => (g k).bind (f k)) h := by
  obtain ⟨r, a, b⟩ := b
  exact ⟨r, e.bind a, b⟩
theorem Both.bindr {α β : Type} {g : Nat → Option β} {f : Nat → β → Option α} {h : Nat → Option α} {x : β} (e : Evt g x) (b : Both h (fun k => f k x)) : Both h (fun k => (g k).bind (f k)) := by
  obtain ⟨r, a, b⟩ := b
  exact ⟨r, a, e.bind b⟩
theorem Both.bind2 {α β : Type} {g g' : Nat → Option β} {f f' : Nat → β → Option α} (e : Both g g') (b : ∀ x, Evt g x → Both (fun k => f k x) (fun k => f' k x)) : Both (fun k => (g k).bind (f k)) (fun k => (g' k).bind (f' k)) := by
  obtain ⟨x, e1, e2⟩ := e
  obtain ⟨r, a, b⟩ := b x e1
  exact ⟨r, e1.bind a, e2.bind b⟩
theorem Both.pure {α : Type} {r : α} : Both (fun _ => some r) (fun _ => some r) := ⟨r, Evt.pure, Evt.pure⟩

theorem Both.pl {α : Type} {c : Prop} [Decidable c] {g g' h : Nat → Option α} (hc : c) (b : Both g h) : Both (fun k => if c then g k else g' k) h := Both.eql (fun _ => if_pos hc) b
theorem Both.nl {α : Type} {c : Prop} [Decidable c] {g g' h : Nat → Option α} (hc : ¬ c) (b : Both g' h) : Both (fun k => if c then g k else g' k) h := Both.eql (fun _ => if_neg hc) b
theorem Both.pr {α : Type} {c : Prop} [Decidable c] {g h h' : Nat → Option α} (hc : c) (b : Both g h) : Both g (fun k => if c then h k else h' k) := Both.eqr (fun _ => if_pos hc) b
theorem Both.nr {α : Type} {c : Prop} [Decidable c] {g h h' : Nat → Option α} (hc : ¬ c) (b : Both g h') : Both g (fun k => if c then h k else h' k) := Both.eqr (fun _ => if_neg hc) b
/-- An index that counts. -/
theorem wrap_succ {i n : Nat} (h : i < n) (hn : n ≤ 9223372036854775807) : wrap64 ((i : Int) + 1) = ((i + 1 : Nat) : Int) := by
  unfold wrap64
  omega
end Go.Proofs.Ytjgnlakgojookaa.Pure
