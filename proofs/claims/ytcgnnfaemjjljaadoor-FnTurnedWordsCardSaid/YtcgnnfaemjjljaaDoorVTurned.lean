/- Turned words, back words, areas: the program's and the reference's answers. -/
import Derived.Test.YtcgnnfaemjjljaaDoorVWords
import Derived.Test.YtcgnnfaemjjljaaDoorQ2
import Derived.Test.YtcgnnfaemjjljaaDoorQGimplturnWord
import Derived.Test.YtcgnnfaemjjljaaDoorQ6
import Derived.Test.YtcgnnfaemjjljaaDoorQ8
import Derived.Test.YtcgnnfaemjjljaaDoorQGimplbackWord
import Derived.Test.YtcgnnfaemjjljaaDoorQ10
import Derived.Test.YtcgnnfaemjjljaaDoorQ16
import Derived.Test.YtcgnnfaemjjljaaDoorQGimplWordArea
import Derived.Test.YtcgnnfaemjjljaaDoorQ0
import Derived.Test.YtcgnnfaemjjljaaDoorOpn
namespace Go.Proofs.YtcgnnfaemjjljaaDoor.Pure
open Go.RowKit Go.Proofs.YtcgnnfaemjjljaaDoor Go.Proofs.YtcgnnfaemjjljaaDoor.Q Go.Proofs.YtcgnnfaemjjljaaDoorW.PrintWords
set_option linter.unusedVariables false
set_option linter.unusedSimpArgs false

def nb (l : List UInt8) : List Int := l.map (fun b => (b.toNat : Int))
theorem nb_snoc (l : List UInt8) (b : UInt8) : nb l ++ [(b.toNat : Int)] = nb (l ++ [b]) := by simp [nb]
theorem str_nb (l : List UInt8) : strOfNums (nb l) = ⟨l.toArray⟩ := by
  unfold strOfNums nb
  congr 2
  rw [List.map_map]
  conv => rhs; rw [← List.map_id l]
  apply List.map_congr_left
  intro b _
  simp
theorem circ_at (j : Nat) (h : j < 4) : bt (⟨#[114, 100, 108, 117]⟩ : ByteArray) (j : Int) = ((letL j).toNat : Int) := by
  match j, h with
  | 0, _ => rfl
  | 1, _ => rfl
  | 2, _ => rfl
  | 3, _ => rfl
theorem let_idx {b : UInt8} (h : isL b = true) : letL (idxL b) = b := by
  rcases (isL_iff b).1 h with rfl | rfl | rfl | rfl <;> decide
theorem let_lt {b : UInt8} {j : Nat} (h : isL b = true) (hj : j < idxL b) : letL j ≠ b := by
  rcases (isL_iff b).1 h with rfl | rfl | rfl | rfl <;> simp [idxL] at hj <;> (try omega)
  · obtain rfl : j = 0 := by omega
    decide
  · rcases (show j = 0 ∨ j = 1 by omega) with rfl | rfl <;> decide
  · rcases (show j = 0 ∨ j = 1 ∨ j = 2 by omega) with rfl | rfl | rfl <;> decide
theorem l1_find (s : ByteArray) (t : Nat) (ht : t ≤ 3) (acc : List UInt8) (i : Nat) (hi : i < (bl s).length) (hs : s.size ≤ 1000000000) (hacc : acc.length ≤ 1000000000) (h : isL (bl s)[i] = true) {r : ByteArray × Int}
    (hr : Evt (fun k => spec_TurnWord.l0 k s t (nb (acc ++ [turnU t (bl s)[i]])) ((i + 1 : Nat) : Int)) r) :
    ∀ d j : Nat, j + d = idxL (bl s)[i] → Evt (fun k => spec_TurnWord.l1 k s t (nb acc) (i : Int) (j : Int)) r := by
  have hlt := idxL_lt (bl s)[i]
  have hl : i < s.size := by rw [← bl_len]; exact hi
  intro d
  induction d with
  | zero =>
    intro j hj
    refine Evt.step (fun k => rfl) ?_
    simp only [spec_TurnWord.l1]
    refine Evt.ite_pos (by omega) (Evt.ite_pos (by omega) (Evt.ite_pos (by omega) (Evt.ite_pos (by omega) ?_)))
    have e : j = idxL (bl s)[i] := by omega
    refine Evt.ite_pos (by rw [circ_at j (by omega), bt_bl s i hi, e, let_idx h]) ?_
    have hm : Int.tmod (wrap64 ((j : Int) + (t : Int))) 4 = (((j + t) % 4 : Nat) : Int) := by
      rw [w64 (by omega) (by omega), Int.tmod_eq_emod_of_nonneg (by omega)]
      omega
    rw [hm]
    refine Evt.ite_pos (by omega) (Evt.ite_pos (by omega) (Evt.ite_pos (by rw [nb, List.length_map]; omega) ?_))
    rw [circ_at _ (by omega), nb_snoc, wrap_succ hl (by omega), letL_mod, e]
    exact hr
  | succ d ih =>
    intro j hj
    refine Evt.step (fun k => rfl) ?_
    simp only [spec_TurnWord.l1]
    refine Evt.ite_pos (by omega) (Evt.ite_pos (by omega) (Evt.ite_pos (by omega) (Evt.ite_pos (by omega) ?_)))
    have hne : letL j ≠ (bl s)[i] := let_lt h (by omega)
    refine Evt.ite_neg (by
      rw [circ_at j (by omega), bt_bl s i hi]
      intro e
      exact hne (UInt8.toNat_inj.1 (by omega))) ?_
    have e2 : wrap64 ((j : Int) + 1) = ((j + 1 : Nat) : Int) := by rw [w64 (by omega) (by omega)]; omega
    rw [e2]
    exact ih (j + 1) (by omega)
theorem specTurn_loop (s : ByteArray) (t : Nat) (ht : t ≤ 3) (hs : s.size ≤ 1000000000) (h : (bl s).all isL = true) :
    Evt (fun k => spec_TurnWord.l0 k s t [] 0) ((⟨((bl s).map (turnU t)).toArray⟩ : ByteArray), (0 : Int)) := by
  have hh := Evt.upS (g := fun k i (acc : List UInt8) => spec_TurnWord.l0 k s t (nb acc) (i : Int)) (R := fun i acc => ((⟨(acc ++ ((bl s).drop i).map (turnU t)).toArray⟩ : ByteArray), (0 : Int))) (P := fun i acc => acc.length = i) (n := s.size) ?_ ?_ 0 [] (Nat.zero_le _) rfl
  · simpa [nb] using hh
  · intro acc _
    refine Evt.step (fun k => rfl) ?_
    simp only [spec_TurnWord.l0]
    refine Evt.ite_neg (by omega) ?_
    rw [List.drop_of_length_le (by rw [bl_len]; omega), str_nb]
    simp only [List.map_nil, List.append_nil]
    exact Evt.pure
  · intro i acc hi hp ih
    have hl : i < (bl s).length := by rw [bl_len]; exact hi
    have hb : isL (bl s)[i] = true := List.all_eq_true.1 h _ (List.getElem_mem hl)
    refine Evt.step (fun k => rfl) ?_
    simp only [spec_TurnWord.l0]
    refine Evt.ite_pos (by omega) ?_
    refine l1_find s t ht acc i hl hs (by omega) hb ?_ (idxL (bl s)[i]) 0 (by omega)
    have h2 := ih (acc ++ [turnU t (bl s)[i]]) (by simp [hp])
    rw [List.drop_eq_getElem_cons hl]
    simpa using h2
theorem turnWord_both (s : ByteArray) (t : Int) (hs : s.size ≤ 1048576) : ∃ r : ByteArray × Int, Evt (fun k => spec_TurnWord.f k s t) r ∧ impl_TurnWord.f s t = some r ∧ (r.2 = 0 → isW s = true ∧ 0 ≤ t ∧ t ≤ 3 ∧ r.1 = ⟨((bl s).map (turnU t.toNat)).toArray⟩) := by
  unfold spec_TurnWord.f impl_TurnWord.f
  rw [isWord_eq]
  simp only [Option.bind_some, in_eq, within_eq]
  cases hw : isW s
  · exact ⟨_, (l23Is_eq s (by omega)).bind (by rw [hw]; exact Evt.pure), rfl, fun h => absurd h (by decide)⟩
  · by_cases ht : 0 ≤ t ∧ t ≤ 3
    · obtain ⟨n, rfl⟩ : ∃ n : Nat, t = (n : Int) := ⟨t.toNat, by omega⟩
      have hsz := isW_size hw
      refine ⟨_, (l23Is_eq s (by omega)).bind (by
        rw [hw]
        simp only [if_true, decide_eq_true ht]
        exact specTurn_loop s n (by omega) (by omega) (isW_all hw)), ?_, fun _ => ⟨rfl, by omega, by omega, rfl⟩⟩
      simp only [if_true, decide_eq_true ht]
      unfold impl_turnWord.f
      rw [if_pos ⟨by omega, by omega, by omega, isW_all hw⟩]
      rfl
    · refine ⟨_, (l23Is_eq s (by omega)).bind (by
        rw [hw]
        simp only [if_true, decide_eq_false ht]
        exact Evt.pure), ?_, fun h => absurd h (by decide)⟩
      simp only [if_true, decide_eq_false ht]
      rfl

/-! ### back words -/
def backL (l : List UInt8) : List UInt8 := (l.map (turnU 2)).reverse
theorem back_len (l : List UInt8) : (backL l).length = l.length := by simp [backL]
theorem l23Back_loop (s : ByteArray) (hs : s.size ≤ 1000000000) (h : (bl s).all isL = true) : ∀ (n : Nat) (acc : List UInt8), n ≤ s.size → acc.length + n ≤ s.size →
    Evt (fun k => spec_l23Back.l0 k s (nb acc) ((n : Int) - 1)) (⟨(acc ++ backL ((bl s).take n)).toArray⟩ : ByteArray) := by
  intro n
  induction n with
  | zero =>
    intro acc _ _
    refine Evt.step (fun k => rfl) ?_
    simp only [spec_l23Back.l0]
    refine Evt.ite_neg (by omega) ?_
    rw [str_nb]
    simp only [List.take_zero, backL, List.map_nil, List.reverse_nil, List.append_nil]
    exact Evt.pure
  | succ n ih =>
    intro acc hn ha
    have hl : n < (bl s).length := by rw [bl_len]; omega
    have hb : isL (bl s)[n] = true := List.all_eq_true.1 h _ (List.getElem_mem hl)
    have e : ((n + 1 : Nat) : Int) - 1 = (n : Int) := by omega
    rw [e]
    have hi := ih (acc ++ [turnU 2 (bl s)[n]]) (by omega) (by simp; omega)
    have e2 : acc ++ backL ((bl s).take (n + 1)) = acc ++ [turnU 2 (bl s)[n]] ++ backL ((bl s).take n) := by
      rw [List.take_succ_eq_append_getElem hl]
      simp [backL]
    rw [e2]
    rw [← nb_snoc] at hi
    have ew : wrap64 ((n : Int) - 1) = (n : Int) - 1 := w64 (by omega) (by omega)
    have hlen : (nb acc).length < 140737488355328 := by rw [nb, List.length_map]; omega
    refine Evt.step (fun k => rfl) ?_
    simp only [spec_l23Back.l0, bt_bl s n hl, u114, u108, u100, ew]
    refine Evt.ite_pos (by omega) (Evt.ite_pos (by omega) (Evt.ite_pos (by omega) ?_))
    generalize hbb : (bl s)[n] = b at hb hi
    rcases (isL_iff b).1 hb with rfl | rfl | rfl | rfl
    · exact Evt.ite_pos rfl (Evt.ite_pos hlen hi)
    · exact Evt.ite_neg (by decide) (Evt.ite_neg (by decide) (Evt.ite_pos rfl (Evt.ite_pos hlen hi)))
    · exact Evt.ite_neg (by decide) (Evt.ite_pos rfl (Evt.ite_pos hlen hi))
    · exact Evt.ite_neg (by decide) (Evt.ite_neg (by decide) (Evt.ite_neg (by decide) (Evt.ite_pos hlen hi)))
theorem l23Back_eq (s : ByteArray) (hs : s.size ≤ 1000000000) (h : (bl s).all isL = true) : Evt (fun k => spec_l23Back.f k s) (⟨(backL (bl s)).toArray⟩ : ByteArray) := by
  unfold spec_l23Back.f
  have hh := l23Back_loop s hs h s.size [] (Nat.le_refl _) (by simp)
  rw [w64 (by omega) (by omega)]
  rw [List.take_of_length_le (by rw [bl_len]; omega)] at hh
  simpa [nb] using hh
theorem backWord_eq (s : ByteArray) (hs : s.size ≤ 1000000000) (h : (bl s).all isL = true) : impl_backWord.f s = some (⟨(backL (bl s)).toArray⟩ : ByteArray) := by
  unfold impl_backWord.f
  rw [if_pos ⟨hs, h⟩]
  rfl
theorem backWord_both (s : ByteArray) (hs : s.size ≤ 1048576) : ∃ r : ByteArray × Int, Evt (fun k => spec_BackWord.f k s) r ∧ impl_BackWord.f s = some r ∧ (r.2 = 0 → isW s = true ∧ r.1 = ⟨(backL (bl s)).toArray⟩) := by
  unfold spec_BackWord.f impl_BackWord.f
  rw [isWord_eq]
  simp only [Option.bind_some]
  cases hw : isW s
  · exact ⟨_, (l23Is_eq s (by omega)).bind (by rw [hw]; exact Evt.pure), rfl, fun h => absurd h (by decide)⟩
  · refine ⟨_, (l23Is_eq s (by omega)).bind (by
      rw [hw]
      exact Evt.ite_pos rfl ((l23Back_eq s (by omega) (isW_all hw)).bind Evt.pure)), ?_, fun _ => ⟨rfl, rfl⟩⟩
    rw [if_pos rfl, backWord_eq s (by omega) (isW_all hw)]
    rfl

/-! ### areas -/
theorem dxy (b : UInt8) (h : isL b = true) : (b = 114 ∧ dxL b = 1 ∧ dyL b = 0) ∨ (b = 108 ∧ dxL b = -1 ∧ dyL b = 0) ∨ (b ≠ 114 ∧ b ≠ 108 ∧ dxL b = 0) := by
  rcases (isL_iff b).1 h with rfl | rfl | rfl | rfl
  · exact Or.inl (by decide)
  · exact Or.inr (Or.inr (by decide))
  · exact Or.inr (Or.inl (by decide))
  · exact Or.inr (Or.inr (by decide))
theorem area_loop (s : ByteArray) (hs : s.size ≤ 200) (h : (bl s).all isL = true) : Evt (fun k => spec_WordArea.l0 k s 0 0 0) ((areaL (bl s)).1, (0 : Int)) := by
  have hh := Evt.upS (g := fun k i (p : Int × Int) => spec_WordArea.l0 k s p.2 p.1 (i : Int)) (R := fun i p => ((((bl s).drop i).foldl areaStep p).1, (0 : Int))) (P := fun i p => (-(200 * (i : Int)) ≤ p.1 ∧ p.1 ≤ 200 * i) ∧ -(i : Int) ≤ p.2 ∧ p.2 ≤ i) (n := s.size) ?_ ?_ 0 (0, 0) (Nat.zero_le _) (by simp)
  · simpa [areaL] using hh
  · rintro ⟨x, y⟩ _
    refine Evt.step (fun k => rfl) ?_
    simp only [spec_WordArea.l0]
    refine Evt.ite_neg (by omega) ?_
    rw [List.drop_of_length_le (by rw [bl_len]; omega)]
    exact Evt.pure
  · rintro i ⟨x, y⟩ hi ⟨⟨x0, x1⟩, y0, y1⟩ ih
    have hl : i < (bl s).length := by rw [bl_len]; exact hi
    have hb : isL (bl s)[i] = true := List.all_eq_true.1 h _ (List.getElem_mem hl)
    have byy := dy_bd (bl s)[i]
    simp only at x0 x1 y0 y1
    refine Evt.step (fun k => rfl) ?_
    simp only [spec_WordArea.l0, bt_bl s i hl, l23Step_eq, Option.bind_some, u114, u108]
    refine Evt.ite_pos (by omega) (Evt.ite_pos (by omega) ?_)
    rw [wrap_succ hi (by omega), List.drop_eq_getElem_cons hl, List.foldl_cons]
    generalize (bl s)[i] = b at hb byy ⊢
    rcases dxy b hb with ⟨e, ex, ey⟩ | ⟨e, ex, ey⟩ | ⟨e1, e2, ex⟩
    · refine Evt.ite_pos e ?_
      have h2 := ih (x - y, y + dyL b) ⟨by simp only; omega, by simp only; omega⟩
      unfold areaStep
      simp only [ex, Int.one_mul] at h2 ⊢
      rw [w64 (n := y) (by omega) (by omega), w64 (n := x - y) (by omega) (by omega), w64 (n := y + dyL b) (by omega) (by omega)]
      exact h2
    · refine Evt.ite_neg (by rw [e]; decide) (Evt.ite_pos e ?_)
      have h2 := ih (x + y, y + dyL b) ⟨by simp only; omega, by simp only; omega⟩
      unfold areaStep
      simp only [ex, Int.neg_mul, Int.one_mul] at h2 ⊢
      rw [w64 (n := -y) (by omega) (by omega), w64 (n := x + y) (by omega) (by omega), w64 (n := x - -y) (by omega) (by omega), w64 (n := y + dyL b) (by omega) (by omega), Int.sub_neg]
      exact h2
    · refine Evt.ite_neg e1 (Evt.ite_neg e2 ?_)
      have h2 := ih (x, y + dyL b) ⟨by simp only; omega, by simp only; omega⟩
      unfold areaStep
      simp only [ex, Int.zero_mul] at h2 ⊢
      rw [w64 (n := 0) (by omega) (by omega), Int.sub_zero, w64 (n := x) (by omega) (by omega), w64 (n := y + dyL b) (by omega) (by omega)]
      exact h2
theorem wordArea_both (s : ByteArray) (hs : s.size ≤ 1048576) : ∃ r : Int × Int, Evt (fun k => spec_WordArea.f k s) r ∧ impl_WordArea.f s = some r ∧ (r.2 = 0 → isW s = true ∧ isC s = true ∧ r.1 = (areaL (bl s)).1) := by
  unfold spec_WordArea.f impl_WordArea.f
  rw [isWord_eq]
  simp only [Option.bind_some]
  cases hw : isW s
  · exact ⟨_, (l23Is_eq s (by omega)).bind (by rw [hw]; exact Evt.pure), rfl, fun h => absurd h (by decide)⟩
  · simp only [if_true, isClosed_eq s (isW_all hw), Option.bind_some]
    have hsz := isW_size hw
    cases hc : isC s
    · exact ⟨_, (l23Is_eq s (by omega)).bind (by rw [hw]; exact Evt.ite_pos rfl ((specIsClosed_eq s (by omega)).bind (by rw [hw, hc]; exact Evt.pure))), rfl, fun h => absurd h (by decide)⟩
    · refine ⟨((areaL (bl s)).1, 0), (l23Is_eq s (by omega)).bind (by rw [hw]; exact Evt.ite_pos rfl ((specIsClosed_eq s (by omega)).bind (by rw [hw, hc]; exact Evt.ite_pos rfl (area_loop s hsz (isW_all hw))))), ?_, fun _ => by simp⟩
      rw [if_pos rfl, if_pos ⟨hsz, isW_all hw⟩]
end Go.Proofs.YtcgnnfaemjjljaaDoor.Pure
