/- What the reference's draws hand out: numbers in range, small lists of cells of small coordinates; for every code of at most 4096 bytes. -/
import Derived.Test.YtcgnnfaemjjljaaDoorVSpec2
import Derived.Test.YtcgnnfaemjjljaaDoorQGspecl01From
import Derived.Test.YtcgnnfaemjjljaaDoorQGspecl01Next
import Derived.Test.YtcgnnfaemjjljaaDoorQ0
import Derived.Test.YtcgnnfaemjjljaaDoorOpn
namespace Go.Proofs.YtcgnnfaemjjljaaDoor.Pure
open Go.RowKit Go.Proofs.YtcgnnfaemjjljaaDoor Go.Proofs.YtcgnnfaemjjljaaDoor.Q Go.Proofs.YtcgnnfaemjjljaaDoorW.PrintWords
set_option linter.unusedVariables false
set_option linter.unusedSimpArgs false

def Bytes (l : List Int) : Prop := l.length ≤ 4096 ∧ ∀ x ∈ l, 0 ≤ x ∧ x ≤ 255
theorem Bytes.at_ {l : List Int} (h : Bytes l) (i : Int) : 0 ≤ rd l i ∧ rd l i ≤ 255 := by
  unfold rd
  rw [List.getD_eq_getElem?_getD]
  by_cases hi : i.toNat < l.length
  · rw [List.getElem?_eq_getElem hi]
    exact h.2 _ (List.getElem_mem hi)
  · rw [List.getElem?_eq_none (by omega)]
    simp
structure Src (l : List Int) (a s : Int) : Prop where
  a0 : 0 ≤ a
  a1 : a ≤ l.length
  s0 : 0 ≤ s
  s1 : s ≤ 2147483646
theorem bytes_of {l : List Int} (h : ∀ x ∈ l, (Lit.int .u8 x).wf = true) (hl : l.length ≤ 4096) : Bytes l := ⟨hl, fun x hx => by
  have h1 : (decide ((0 : Int) ≤ x) && decide (x ≤ (255 : Int))) = true := h x hx
  simpa using h1⟩
theorem seed_in {x : Int} (h0 : 0 ≤ x) (h1 : x ≤ 9223372036854775807) : 0 ≤ Int.tmod x 2147483647 ∧ Int.tmod x 2147483647 ≤ 2147483646 := by
  rw [Int.tmod_eq_emod_of_nonneg h0]
  omega
theorem next_any {l : List Int} {a s : Int} (hb : Bytes l) (h : Src l a s) (n : Int) :
    ∃ r a' s', spec_l01Next.f l a s n = some (r, a', s') ∧ Src l a' s' ∧ 0 ≤ r ∧ (1 ≤ n → r < n) ∧ (n ≤ 1 → r = 0) := by
  obtain ⟨a0, a1, s0, s1⟩ := h
  have hl := hb.1
  unfold spec_l01Next.f
  by_cases h1 : n ≤ 1
  · rw [if_pos h1]
    exact ⟨0, a, s, rfl, ⟨a0, a1, s0, s1⟩, Int.le_refl _, fun _ => by omega, fun _ => rfl⟩
  · rw [if_neg h1]
    have hsd := seed_in (x := wrap64 (wrap64 (s * 48271) + 29)) (by rw [w64 (n := s * 48271) (by omega) (by omega), w64 (by omega) (by omega)]; omega) (by rw [w64 (n := s * 48271) (by omega) (by omega), w64 (by omega) (by omega)]; omega)
    generalize Int.tmod (wrap64 (wrap64 (s * 48271) + 29)) 2147483647 = s' at hsd ⊢
    have hx : wrap64 (Int.tdiv s' 31) = s' / 31 := by rw [Int.tdiv_eq_ediv_of_nonneg hsd.1, w64 (by omega) (by omega)]
    have tm : ∀ x : Int, 0 ≤ x → 0 ≤ Int.tmod x n ∧ Int.tmod x n < n := fun x hx => by
      rw [Int.tmod_eq_emod_of_nonneg hx]
      exact ⟨Int.emod_nonneg _ (by omega), Int.emod_lt_of_pos _ (by omega)⟩
    by_cases h2 : a < (l.length : Int)
    · rw [if_pos h2, if_pos a0]
      have hr := hb.at_ a
      have hw : wrap64 (rd l a) = rd l a := w64 (by omega) (by omega)
      by_cases h3 : n ≤ 256 ∧ (a + 1) % 2 = 0
      · rw [if_pos h3, hw]
        have := tm _ hr.1
        exact ⟨_, _, _, rfl, ⟨by omega, by omega, hsd.1, hsd.2⟩, this.1, fun _ => this.2, fun h => absurd h h1⟩
      · rw [if_neg h3, hw, hx, w64 (by omega) (by omega)]
        have := tm (s' / 31 + rd l a) (by omega)
        exact ⟨_, _, _, rfl, ⟨by omega, by omega, hsd.1, hsd.2⟩, this.1, fun _ => this.2, fun h => absurd h h1⟩
    · rw [if_neg h2, hx]
      have := tm (s' / 31) (by omega)
      exact ⟨_, _, _, rfl, ⟨a0, a1, hsd.1, hsd.2⟩, this.1, fun _ => this.2, fun h => absurd h h1⟩
theorem next_ok {l : List Int} {a s : Int} (hb : Bytes l) (h : Src l a s) (n : Int) (_hn : n ≤ 9223372036854775807) :
    ∃ r a' s', spec_l01Next.f l a s n = some (r, a', s') ∧ Src l a' s' ∧ 0 ≤ r ∧ (1 ≤ n → r < n) ∧ (n ≤ 1 → r = 0) := next_any hb h n
theorem from_s (l : List Int) (hb : ∀ x ∈ l, 0 ≤ x ∧ x ≤ 255) : ∀ s : Int, (0 ≤ s ∧ s ≤ 2147483646) → 0 ≤ spec_l01From.s l s ∧ spec_l01From.s l s ≤ 2147483646 := by
  induction l with
  | nil => intro s hs; exact hs
  | cons c r ih =>
    intro s hs
    have hc := hb c List.mem_cons_self
    unfold spec_l01From.s at ih ⊢
    rw [List.foldl_cons]
    refine ih (fun x hx => hb x (List.mem_cons_of_mem _ hx)) _ ?_
    refine seed_in ?_ ?_
    · rw [w64 (n := s * 47) (by omega) (by omega), w64 (n := c) (by omega) (by omega), w64 (by omega) (by omega)]; omega
    · rw [w64 (n := s * 47) (by omega) (by omega), w64 (n := c) (by omega) (by omega), w64 (by omega) (by omega)]; omega
theorem from_ok {l : List Int} (hb : Bytes l) : ∃ s, spec_l01From.f l = some (l, 0, s) ∧ Src l 0 s := by
  have h := from_s (l.take 64) (fun x hx => hb.2 x (List.mem_of_mem_take hx)) 61003 (by omega)
  exact ⟨_, rfl, ⟨Int.le_refl _, by omega, h.1, h.2⟩⟩
end Go.Proofs.YtcgnnfaemjjljaaDoor.Pure
