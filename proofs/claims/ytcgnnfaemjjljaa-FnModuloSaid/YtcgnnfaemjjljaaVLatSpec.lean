/- The reference's list of the lattices with which a shape tiles: it ends, for every shape. -/
import Derived.Test.YtcgnnfaemjjljaaVTiles
import Derived.Test.YtcgnnfaemjjljaaQ18
import Derived.Test.YtcgnnfaemjjljaaQ0
import Derived.Test.YtcgnnfaemjjljaaOpn
namespace Go.Proofs.Ytcgnnfaemjjljaa.Pure
open Go.RowKit Go.Proofs.Ytcgnnfaemjjljaa Go.Proofs.Ytcgnnfaemjjljaa.Q Go.Proofs.YtcgnnfaemjjljaaW.PrintWords
set_option linter.unusedVariables false
set_option linter.unusedSimpArgs false

def Ends {α : Type} (g : Nat → Option α) : Prop := ∃ r, Evt g r
theorem Ends.step {α : Type} {g h : Nat → Option α} (e : ∀ k, g (k + 1) = h k) (b : Ends h) : Ends g := by
  obtain ⟨r, a⟩ := b
  exact ⟨r, a.step e⟩
theorem Ends.bind {α β : Type} {g : Nat → Option β} {f : Nat → β → Option α} {x : β} (e : Evt g x) (b : Ends (fun k => f k x)) : Ends (fun k => (g k).bind (f k)) := by
  obtain ⟨r, a⟩ := b
  exact ⟨r, e.bind a⟩
theorem Ends.pure {α : Type} {r : α} : Ends (fun _ => some r) := ⟨r, Evt.pure⟩
theorem div_bound1 {n h : Nat} : (n : Int) / (h : Int) = ((n / h : Nat) : Int) := by simp
theorem shifts_spec (l : List Cell) (hs : Small l) (hb : l.length ≤ 40) (h q : Nat) (h1 : 1 ≤ h) (h2 : h ≤ 40) (hq : q ≤ 40) (ED : Aside0 (wrap64 ((l.length : Int) / (h : Int)) = (q : Int))) (HM : Aside0 ((l.length : Int) % (h : Int) = 0))
    (next : ∀ acc' : List S30, acc'.length ≤ 40 * (h + 1) → Ends (fun k => spec_l24Lattices.l0 k l (l.length : Int) acc' (wrap64 ((h : Int) + 1)))) :
    ∀ (m s : Nat) (acc' : List S30), q - s = m → acc'.length ≤ 40 * h + s → s ≤ q →
          Ends (fun k => spec_l24Lattices.l1 k l (l.length : Int) acc' (h : Int) (s : Int)) := by
  have h0 : ¬ (h : Int) = 0 := by omega
  intro m
  induction m with
  | zero =>
    intro s acc' hms ha' hsl
    have hsc : ¬ (s : Int) < (q : Int) := by omega
    have hn : acc'.length ≤ 40 * (h + 1) := by omega
    clear ha' hms hsl
    refine Ends.step (fun k => rfl) ?_
    simp only [spec_l24Lattices.l1, ED.out, if_neg h0, if_pos HM.out]
    refine Ends.step (fun k => rfl) ?_
    simp only [spec_l24Lattices.j2, decide_eq_false hsc, Bool.false_eq_true, if_false]
    exact next acc' hn
  | succ m ihm =>
    intro s acc' hms ha' hsl
    have es : wrap64 ((s : Int) + 1) = ((s + 1 : Nat) : Int) := by rw [w64 (by omega) (by omega)]; omega
    have hsc : (s : Int) < (q : Int) := by omega
    have hL : Lat (q : Int) (s : Int) (h : Int) = true := Lat_iff.2 ⟨by omega, by omega, by omega, by omega, by omega, by omega⟩
    have ha2 : acc'.length < 5864062014805 := by omega
    have i1 := ihm (s + 1) acc' (by omega) (by omega) (by omega)
    have i2 := fun x => ihm (s + 1) (acc' ++ [x]) (by omega) (by simp; omega) (by omega)
    have hlb : l.length ≤ 1000000 := by omega
    refine Ends.step (fun k => rfl) ?_
    simp only [spec_l24Lattices.l1, ED.out, if_neg h0, if_pos HM.out]
    refine Ends.step (fun k => rfl) ?_
    simp only [spec_l24Lattices.j2, ED.out, es, decide_eq_true hsc, if_true, if_neg h0]
    refine Ends.bind (l24Tiles_eq l hL hs hlb) ?_
    cases til l (q : Int) (s : Int) (h : Int)
    · simp only [Bool.false_eq_true, if_false]
      exact i1
    · simp only [if_true, if_pos ha2]
      exact i2 _
theorem lattices_from1 (l : List Cell) (hS : Sh l = true) : ∀ (d : Nat) (h : Nat) (acc : List S30), 1 ≤ h → l.length + 1 - h = d → acc.length ≤ 40 * h →
    Ends (fun k => spec_l24Lattices.l0 k l (l.length : Int) acc (h : Int)) := by
  have hb := Sh_len hS
  have hs := Sh_small hS
  intro d
  induction d with
  | zero =>
    intro h acc h1 hd ha
    refine Ends.step (fun k => rfl) ?_
    simp only [spec_l24Lattices.l0]
    simp only [if_neg (show ¬ (h : Int) ≤ (l.length : Int) by omega)]
    exact Ends.pure
  | succ d ih =>
    intro h acc h1 hd ha
    obtain ⟨q, hqe, hq⟩ : ∃ q, q = l.length / h ∧ q ≤ 40 := ⟨_, rfl, Nat.le_trans (Nat.div_le_self _ _) hb.2⟩
    have next : ∀ acc', acc'.length ≤ 40 * (h + 1) → Ends (fun k => spec_l24Lattices.l0 k l (l.length : Int) acc' (wrap64 ((h : Int) + 1))) := by
      intro acc' ha'
      have e : wrap64 ((h : Int) + 1) = ((h + 1 : Nat) : Int) := by rw [w64 (by omega) (by omega)]; omega
      rw [e]
      exact ih (h + 1) acc' (by omega) (by omega) ha'
    refine Ends.step (fun k => rfl) ?_
    simp only [spec_l24Lattices.l0]
    simp only [if_pos (show (h : Int) ≤ (l.length : Int) by omega)]
    by_cases hm : (l.length : Int) % (h : Int) = 0
    · have ed : wrap64 ((l.length : Int) / (h : Int)) = (q : Int) := by rw [div_bound1, ← hqe, w64 (by omega) (by omega)]
      clear hqe
      exact shifts_spec l hs hb.2 h q h1 (by omega) hq ⟨ed⟩ ⟨hm⟩ next _ 0 acc rfl (by omega) (Nat.zero_le _)
    · refine Ends.step (fun k => rfl) ?_
      simp only [spec_l24Lattices.l1, if_neg (show ¬ (h : Int) = 0 by omega), if_neg hm]
      refine Ends.step (fun k => rfl) ?_
      simp only [spec_l24Lattices.j2, Bool.false_eq_true, if_false]
      exact next acc (by omega)
theorem lattices_end (l : List Cell) (hS : Sh l = true) : ∃ r, Evt (fun k => spec_l24Lattices.f k l) r := by
  unfold spec_l24Lattices.f
  exact lattices_from1 l hS _ 1 [] (by omega) rfl (by simp)
end Go.Proofs.Ytcgnnfaemjjljaa.Pure
