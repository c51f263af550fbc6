/- The law FnTurnedWords: four quarter turns restore a word, and so does going back twice; for every code. -/
import Derived.Test.YtcgnnfaemjjljaaDoorVRound
import Derived.Test.YtcgnnfaemjjljaaDoorVTurned
import Derived.Test.YtcgnnfaemjjljaaDoorQGimplturnWord
import Derived.Test.YtcgnnfaemjjljaaDoorQ6
import Derived.Test.YtcgnnfaemjjljaaDoorQ10
import Derived.Test.YtcgnnfaemjjljaaDoorQGimplWordArea
import Derived.Test.YtcgnnfaemjjljaaDoorQ26
import Derived.Test.YtcgnnfaemjjljaaDoorQGspecl01From
import Derived.Test.YtcgnnfaemjjljaaDoorQ42
import Derived.Test.YtcgnnfaemjjljaaDoorQ43
import Derived.Test.YtcgnnfaemjjljaaDoorUFnTurnedWords
import Derived.Test.YtcgnnfaemjjljaaDoorQ0
import Derived.Test.YtcgnnfaemjjljaaDoorOpn
namespace Go.Proofs.YtcgnnfaemjjljaaDoor.Pure
open Go.RowKit Go.Proofs.YtcgnnfaemjjljaaDoor Go.Proofs.YtcgnnfaemjjljaaDoor.Q Go.Proofs.YtcgnnfaemjjljaaDoor.UFnTurnedWords Go.Proofs.YtcgnnfaemjjljaaDoorW.PrintWords
set_option linter.unusedVariables false
set_option linter.unusedSimpArgs false

theorem turnU_L (t : Nat) (ht : t ≤ 3) (b : UInt8) (h : isL b = true) : isL (turnU t b) = true ∧ turnU ((4 - t) % 4) (turnU t b) = b := by
  have ht' : t = 0 ∨ t = 1 ∨ t = 2 ∨ t = 3 := by omega
  rcases (isL_iff b).1 h with rfl | rfl | rfl | rfl <;> rcases ht' with rfl | rfl | rfl | rfl <;> decide
theorem turnU_xy (t : Nat) (ht : t ≤ 3) (b : UInt8) (h : isL b = true) : (dxL (turnU t b), dyL (turnU t b)) = (if t = 0 then (dxL b, dyL b) else if t = 1 then (- dyL b, dxL b) else if t = 2 then (- dxL b, - dyL b) else (dyL b, - dxL b)) := by
  have ht' : t = 0 ∨ t = 1 ∨ t = 2 ∨ t = 3 := by omega
  rcases (isL_iff b).1 h with rfl | rfl | rfl | rfl <;> rcases ht' with rfl | rfl | rfl | rfl <;> decide
theorem sxy_turn (t : Nat) (ht : t ≤ 3) : ∀ l : List UInt8, l.all isL = true → (sx (l.map (turnU t)), sy (l.map (turnU t))) = (if t = 0 then (sx l, sy l) else if t = 1 then (- sy l, sx l) else if t = 2 then (- sx l, - sy l) else (sy l, - sx l))
  | [], _ => by
    have ht' : t = 0 ∨ t = 1 ∨ t = 2 ∨ t = 3 := by omega
    rcases ht' with rfl | rfl | rfl | rfl <;> rfl
  | b :: r, h => by
    rw [List.all_cons, Bool.and_eq_true] at h
    have h1 := turnU_xy t ht b h.1
    have h2 := sxy_turn t ht r h.2
    have ht' : t = 0 ∨ t = 1 ∨ t = 2 ∨ t = 3 := by omega
    simp only [List.map_cons, sx, sy]
    rcases ht' with rfl | rfl | rfl | rfl <;> simp at h1 h2 ⊢ <;> omega
theorem all_turn (t : Nat) (ht : t ≤ 3) (l : List UInt8) (h : l.all isL = true) : (l.map (turnU t)).all isL = true ∧ (l.map (turnU t)).map (turnU ((4 - t) % 4)) = l := by
  induction l with
  | nil => exact ⟨rfl, rfl⟩
  | cons b r ih =>
    rw [List.all_cons, Bool.and_eq_true] at h
    obtain ⟨h1, h2⟩ := ih h.2
    obtain ⟨h3, h4⟩ := turnU_L t ht b h.1
    simp only [List.map_cons, List.all_cons, h1, h3, h2, h4, Bool.and_self, and_self]
theorem bl_mk' (l : List UInt8) : bl (⟨l.toArray⟩ : ByteArray) = l := by simp [bl]
theorem isW_mk {s : ByteArray} {m : List UInt8} (h : isW s = true) (hm : m.all isL = true) (hl : m.length = (bl s).length) : isW (⟨m.toArray⟩ : ByteArray) = true := by
  have h2 := isW_size h
  have e := bl_len (⟨m.toArray⟩ : ByteArray)
  rw [bl_mk'] at e
  have e2 := bl_len s
  unfold isW
  rw [bl_mk', hm, Bool.true_and]
  exact decide_eq_true (by omega)
theorem back_back (l : List UInt8) (h : l.all isL = true) : backL (backL l) = l := by
  have := (all_turn 2 (by omega) l h).2
  unfold backL
  rw [List.map_reverse, List.reverse_reverse]
  exact this
theorem isW_back {s : ByteArray} (h : isW s = true) : isW (⟨(backL (bl s)).toArray⟩ : ByteArray) = true := by
  refine isW_mk h ?_ (back_len _)
  unfold backL
  rw [List.all_reverse]
  exact (all_turn 2 (by omega) _ (isW_all h)).1
theorem mk_bl (s : ByteArray) : (⟨(bl s).toArray⟩ : ByteArray) = s := by
  apply bl_inj
  rw [bl_mk']
theorem backW {s : ByteArray} (h : isW s = true) : impl_BackWord.f s = some (⟨(backL (bl s)).toArray⟩, 0) := by
  have hs := isW_size h
  unfold impl_BackWord.f
  rw [isWord_eq, h]
  simp only [Option.bind_some, if_true]
  rw [backWord_eq s (by omega) (isW_all h)]
  rfl
theorem turnW {s : ByteArray} (h : isW s = true) (n : Nat) (hn : n ≤ 3) : impl_TurnWord.f s (n : Int) = some (⟨((bl s).map (turnU n)).toArray⟩, 0) := by
  unfold impl_TurnWord.f
  rw [isWord_eq, h]
  have ht : (0 : Int) ≤ n ∧ (n : Int) ≤ 3 := by omega
  simp only [Option.bind_some, within_eq, if_true, decide_eq_true ht]
  have hsz := isW_size h
  unfold impl_turnWord.f
  rw [if_pos ⟨by omega, by omega, by omega, isW_all h⟩]
  rfl
theorem big_eq (l : List Int) : laws_big.f l = some (decide ((l.length : Int) > 4096)) := rfl
theorem src_from {l : List Int} (hb : Bytes l) : ∃ s, spec_l01From.f l = some (l, 0, s) ∧ Src l 0 s := from_ok hb
theorem dback {l : List Int} (hb : Bytes l) : Ev (fun k => spec_DrawBackWord.f k l) (fun w => w.size ≤ 5000) := by
  obtain ⟨s, h, hs⟩ := src_from hb
  unfold spec_DrawBackWord.f
  rw [h]
  simp only [Option.bind_some]
  exact (draw_word_ends hb hs).bind fun r hr => Ev.pure hr.1
theorem dturn {l : List Int} (hb : Bytes l) : Ev (fun k => spec_DrawTurnWord.f k l) (fun r => r.1.size ≤ 5000) := by
  obtain ⟨s, h, hs⟩ := src_from hb
  unfold spec_DrawTurnWord.f
  rw [h]
  simp only [Option.bind_some]
  refine (draw_word_ends hb hs).bind fun r hr => ?_
  obtain ⟨w, a, s1⟩ := r
  obtain ⟨x, a1, s2, hx, hs2, _⟩ := next_ok hb hr.2 5 (by omega)
  obtain ⟨x3, a3, s3, hx3, _⟩ := next_ok hb hs2 20 (by omega)
  simp only [hx, hx3, Option.bind_some]
  exact Ev.pure hr.1
theorem FnTurnedWords : laws_FnTurnedWords_Pure := by
  intro l hl _
  suffices h : Ev (fun k => laws_FnTurnedWords.f k l) (fun r => r = true) by
    obtain ⟨r, e, rfl⟩ := h
    exact e.out
  unfold laws_FnTurnedWords.f
  rw [big_eq]
  simp only [Option.bind_some]
  by_cases hbig : (l.length : Int) > 4096
  · exact Ev.pos (by simpa using hbig) (Ev.pure rfl)
  · refine Ev.neg (by simpa using hbig) ?_
    have hb : Bytes l := bytes_of hl.2 (by omega)
    refine (dturn hb).bind ?_
    rintro ⟨w, t⟩ hw
    replace hw : w.size ≤ 5000 := hw
    obtain ⟨r, r1, r2, r3⟩ := turnWord_both w t (by omega)
    simp only [r2, Option.bind_some]
    refine Ev.bindE r1 ((dback hb).bind ?_)
    intro v hv
    obtain ⟨q, q1, q2, q3⟩ := backWord_both v (by omega)
    simp only [q2, Option.bind_some]
    refine Ev.bindE q1 (Ev.pos (by simp) (Ev.pos (by simp) (Ev.pos (by simp) ?_)))
    obtain ⟨x, bad⟩ := r
    obtain ⟨b, one⟩ := q
    have last : Ev (fun k => laws_FnTurnedWords.j1 k w t x bad) (fun r => r = true) := by
      refine Ev.step (fun k => rfl) ?_
      simp only [laws_FnTurnedWords.j1]
      by_cases hz : bad = 0
      · refine Ev.pos hz ?_
        obtain ⟨hW, t0, t3, hx⟩ := r3 hz
        replace hx : x = ⟨((bl w).map (turnU t.toNat)).toArray⟩ := hx
        obtain ⟨n, rfl⟩ : ∃ n : Nat, t = (n : Int) := ⟨t.toNat, by omega⟩
        rw [Int.toNat_natCast] at hx
        have ha := all_turn n (by omega) (bl w) (isW_all hW)
        have hWx : isW x = true := by rw [hx]; exact isW_mk hW ha.1 (by simp)
        have et : Int.tmod (wrap64 (4 - (n : Int))) 4 = (((4 - n) % 4 : Nat) : Int) := by
          rw [w64 (by omega) (by omega), Int.tmod_eq_emod_of_nonneg (by omega)]
          omega
        have hxb : bl x = (bl w).map (turnU n) := by rw [hx, bl_mk']
        rw [et, turnW hWx _ (by omega)]
        simp only [Option.bind_some]
        have ey : (⟨((bl x).map (turnU ((4 - n) % 4))).toArray⟩ : ByteArray) = w := by rw [hxb, ha.2, mk_bl]
        rw [ey]
        refine Ev.pos (by simp) (Ev.pos (by simp) ?_)
        simp only [implIsClosed_eq, Option.bind_some]
        refine Ev.pure ?_
        have hc : isC x = isC w := by
          have h2 := sxy_turn n (by omega) (bl w) (isW_all hW)
          have ht' : n = 0 ∨ n = 1 ∨ n = 2 ∨ n = 3 := by omega
          unfold isC
          rw [hxb]
          have hi : (sx ((bl w).map (turnU n)) = 0 ∧ sy ((bl w).map (turnU n)) = 0) ↔ (sx (bl w) = 0 ∧ sy (bl w) = 0) := by
            rcases ht' with rfl | rfl | rfl | rfl <;> simp at h2 <;> omega
          rw [Bool.eq_iff_iff]
          simpa using hi
        rw [hW, hWx, hc]
        simp
      · exact Ev.neg hz (Ev.pure rfl)
    refine Ev.step (fun k => rfl) ?_
    simp only [laws_FnTurnedWords.j0]
    refine Ev.neg (by simp) ?_
    by_cases hz : one = 0
    · refine Ev.pos hz ?_
      obtain ⟨hW, hb2⟩ := q3 hz
      replace hb2 : b = ⟨(backL (bl v)).toArray⟩ := hb2
      have e : impl_BackWord.f b = some (v, 0) := by
        rw [hb2, backW (isW_back hW), bl_mk', back_back _ (isW_all hW), mk_bl]
      rw [e]
      simp only [Option.bind_some]
      exact Ev.pos (by simp) (Ev.pos (by simp) last)
    · exact Ev.neg hz last
end Go.Proofs.YtcgnnfaemjjljaaDoor.Pure
