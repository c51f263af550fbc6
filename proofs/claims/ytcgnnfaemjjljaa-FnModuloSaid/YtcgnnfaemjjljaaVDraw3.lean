/- The reference's draw of a shape: it ends, with a list of at most 50 cells of coordinates up to 1000; for every code of at most 4096 bytes. -/
import Derived.Test.YtcgnnfaemjjljaaVDraw2
import Derived.Test.YtcgnnfaemjjljaaQ16
import Derived.Test.YtcgnnfaemjjljaaQ0
import Derived.Test.YtcgnnfaemjjljaaOpn
namespace Go.Proofs.Ytcgnnfaemjjljaa.Pure
open Go.RowKit Go.Proofs.Ytcgnnfaemjjljaa Go.Proofs.Ytcgnnfaemjjljaa.Q Go.Proofs.YtcgnnfaemjjljaaW.PrintWords
set_option linter.unusedVariables false
set_option linter.unusedSimpArgs false

theorem row_loop {l : List Int} (hb : Bytes l) : ∀ (d i : Nat) (a s : Int) (out : List Cell), 41 - i ≤ d → i ≤ 41 → Src l a s → out.length = i → In 41 out →
    ∃ r a' s', Evt (fun k => spec_l02Draw.l0 k out (i : Int) l a s) (r, a', s') ∧ Src l a' s' ∧ r.length ≤ 41 ∧ In 41 r := by
  intro d
  induction d with
  | zero =>
    intro i a s out hd hi hs hl hin
    obtain ⟨x, a1, s1, hx, hs1, x0, x1, _⟩ := next_ok hb hs 2 (by omega)
    have x2 := x1 (by omega)
    refine ⟨out, a1, s1, ?_, hs1, by omega, hin⟩
    refine Evt.step (fun k => rfl) ?_
    simp only [spec_l02Draw.l0, hx, Option.bind_some]
    rw [w64 (by omega) (by omega)]
    exact Evt.ite_neg (by omega) Evt.pure
  | succ d ih =>
    intro i a s out hd hi hs hl hin
    obtain ⟨x, a1, s1, hx, hs1, x0, x1, _⟩ := next_ok hb hs 2 (by omega)
    have x2 := x1 (by omega)
    by_cases hc : (i : Int) < 40 + x
    · obtain ⟨r, a2, s2, hr, hs2, hrl, hri⟩ := ih (i + 1) a1 s1 (out ++ [⟨(i : Int), 0⟩]) (by omega) (by omega) hs1 (by simp [hl]) (by
        intro c hc'
        rcases List.mem_append.1 hc' with h | h
        · exact hin c h
        · rw [List.mem_singleton.1 h]; simp only; omega)
      refine ⟨r, a2, s2, ?_, hs2, hrl, hri⟩
      refine Evt.step (fun k => rfl) ?_
      simp only [spec_l02Draw.l0, hx, Option.bind_some]
      rw [w64 (n := 40 + x) (by omega) (by omega)]
      refine Evt.ite_pos hc (Evt.ite_pos (by omega) ?_)
      have ew : wrap64 ((i : Int) + 1) = ((i + 1 : Nat) : Int) := by rw [w64 (by omega) (by omega)]; omega
      rw [ew]
      exact hr
    · refine ⟨out, a1, s1, ?_, hs1, by omega, hin⟩
      refine Evt.step (fun k => rfl) ?_
      simp only [spec_l02Draw.l0, hx, Option.bind_some]
      rw [w64 (by omega) (by omega)]
      exact Evt.ite_neg hc Evt.pure
theorem In.snoc {l : List Cell} {b : Int} {c : Cell} (h : In b l) (hc : (-b ≤ c.f0 ∧ c.f0 ≤ b) ∧ -b ≤ c.f1 ∧ c.f1 ≤ b) : In b (l ++ [c]) := by
  intro d hd
  rcases List.mem_append.1 hd with h2 | h2
  · exact h d h2
  · rw [List.mem_singleton.1 h2]; exact hc
/-- What a draw of a list of cells gives. -/
def Drawn (l : List Int) (g : Nat → Option (List Cell × Int × Int)) : Prop := ∃ r a s, Evt g (r, a, s) ∧ Src l a s ∧ r.length ≤ 50 ∧ In 1000 r
theorem Drawn.pos {l : List Int} {c : Prop} [Decidable c] {g h : Nat → Option (List Cell × Int × Int)} (hc : c) (hd : Drawn l g) : Drawn l (fun k => if c then g k else h k) := by
  obtain ⟨r, a, s, h1, h2⟩ := hd
  exact ⟨r, a, s, Evt.ite_pos hc h1, h2⟩
theorem Drawn.neg {l : List Int} {c : Prop} [Decidable c] {g h : Nat → Option (List Cell × Int × Int)} (hc : ¬ c) (hd : Drawn l h) : Drawn l (fun k => if c then g k else h k) := by
  obtain ⟨r, a, s, h1, h2⟩ := hd
  exact ⟨r, a, s, Evt.ite_neg hc h1, h2⟩
theorem Drawn.bind {l : List Int} {α : Type} {g : Nat → Option α} {f : Nat → α → Option (List Cell × Int × Int)} {x : α} (h : Evt g x) (hd : Drawn l (fun k => f k x)) : Drawn l (fun k => (g k).bind (f k)) := by
  obtain ⟨r, a, s, h1, h2⟩ := hd
  exact ⟨r, a, s, h.bind h1, h2⟩
theorem Drawn.pure {l : List Int} {r : List Cell} {a s : Int} (h : Src l a s) (hl : r.length ≤ 50) (hi : In 1000 r) : Drawn l (fun _ => some (r, a, s)) := ⟨r, a, s, Evt.pure, h, hl, hi⟩
theorem three_rd (i : Int) (h0 : 0 ≤ i) (h1 : i < 3) : -100 ≤ rd ([(-100), 100, 101] : List Int) i ∧ rd ([(-100), 100, 101] : List Int) i ≤ 101 := by
  obtain rfl | rfl | rfl : i = 0 ∨ i = 1 ∨ i = 2 := by omega
  all_goals (simp [rd])
theorem draw_ok {l : List Int} (hb : Bytes l) {a s : Int} (hs : Src l a s) : Drawn l (fun k => spec_l02Draw.f k l a s) := by
  unfold spec_l02Draw.f
  obtain ⟨p, a1, s1, hp, hs1, hp0, hpl, hpi⟩ := poly_ok hb hs 8 (by omega) (by omega)
  obtain ⟨x, a2, s2, hx, hs2, x0, x1, _⟩ := next_ok hb hs1 9 (by omega)
  obtain ⟨y, a3, s3, hy, hs3, y0, y1, _⟩ := next_ok hb hs2 9 (by omega)
  have x2 := x1 (by omega)
  have y2 := y1 (by omega)
  have hpos : 0 < p.length := List.length_pos_iff.2 hp0
  refine Drawn.bind hp ?_
  simp only [hx, hy, Option.bind_some]
  rw [w64 (n := x - 4) (by omega) (by omega), w64 (n := y - 4) (by omega) (by omega)]
  refine Drawn.bind (l02Move_eq p (x - 4) (y - 4) (by omega) (hpi.mono (by omega)) (by omega) (by omega)) ?_
  have hql := movC_len p (x - 4) (y - 4)
  have hqi := (In.mov hpi (b := 5) (x := x - 4) (y := y - 4) (by omega) (by omega)).mono (b := 100) (by omega)
  generalize movC p (x - 4) (y - 4) = q at hql hqi ⊢
  obtain ⟨z, a4, s4, hz, hs4, z0, z1, _⟩ := next_ok hb hs3 (q.length : Int) (by omega)
  have z2 := z1 (by omega)
  obtain ⟨j, rfl⟩ : ∃ j : Nat, z = (j : Int) := ⟨z.toNat, by omega⟩
  have hj : j < q.length := by omega
  have hqj := In.at hqi j hj
  have hq0 := In.at hqi 0 (by omega)
  have hqe := In.at hqi (q.length - 1) (by omega)
  obtain ⟨t, a5, s5, ht, hs5, t0, t1, _⟩ := next_ok hb hs4 24 (by omega)
  obtain ⟨u, a6, s6, hu, hs6, u0, u1, _⟩ := next_ok hb hs5 3 (by omega)
  have u2 := u1 (by omega)
  have hu3 := three_rd u u0 u2
  simp only [hz, ht, hu, Option.bind_some, rd_getD]
  have ee : wrap64 ((q.length : Int) - 1) = ((q.length - 1 : Nat) : Int) := by rw [w64 (by omega) (by omega)]; omega
  by_cases c0 : t = 0
  · refine Drawn.pos c0 (Drawn.pos u0 (Drawn.pos (by simp; omega) (Drawn.pos (by omega) (Drawn.pos (by omega) ?_))))
    refine Drawn.bind (l02Sort_eq _ (by simp; omega)) ?_
    refine Drawn.pure hs6 (by rw [sortC_len]; simp; omega) ?_
    intro d hd
    have hd2 := (sortC_perm _).mem_iff.1 hd
    rcases List.mem_or_eq_of_mem_set hd2 with h | h
    · have := hqi d h; omega
    · rw [h]; simp only; omega
  · refine Drawn.neg c0 ?_
    by_cases c1 : t = 1
    · refine Drawn.pos c1 (Drawn.pos (by omega) (Drawn.pos (by omega) (Drawn.pos (by omega) ?_)))
      exact Drawn.pure hs5 (by simp; omega) (In.snoc (hqi.mono (by omega)) (by simp only; omega))
    · refine Drawn.neg c1 ?_
      by_cases c2 : t = 2
      · exact Drawn.pos c2 (Drawn.pure hs5 (by simp) (by intro c hc; cases hc))
      · refine Drawn.neg c2 ?_
        by_cases c3 : t = 3
        · obtain ⟨r, a7, s7, hr, hs7, hrl, hri⟩ := row_loop hb 41 0 a5 s5 [] (by omega) (by omega) hs5 rfl (by intro c hc; cases hc)
          exact Drawn.pos c3 ⟨r, a7, s7, hr, hs7, by omega, hri.mono (by omega)⟩
        · refine Drawn.neg c3 ?_
          have e0 : rd_T37 q 0 = q.getD 0 z37 := rd_getD q 0
          have last : Drawn l (fun _ => some ((q ++ [(⟨wrap64 ((rd_T37 q 0).f0 + 3), wrap64 ((q.getD (q.length - 1) z37).f1 + 2)⟩ : Cell)]), a5, s5)) := by
            rw [e0, w64 (n := (q.getD 0 z37).f0 + 3) (by omega) (by omega), w64 (n := (q.getD (q.length - 1) z37).f1 + 2) (by omega) (by omega)]
            exact Drawn.pure hs5 (by simp; omega) (In.snoc (hqi.mono (by omega)) (by simp only; omega))
          by_cases c4 : t = 4
          · refine Drawn.pos c4 (Drawn.pos (by omega) ?_)
            simp only [ee, rd_getD]
            exact Drawn.pos (by omega) (Drawn.pos (by omega) (Drawn.pos (by omega) last))
          · refine Drawn.neg c4 ?_
            by_cases c5 : t = 5
            · refine Drawn.pos c5 (Drawn.pos (by omega) ?_)
              simp only [ee, rd_getD]
              exact Drawn.pos (by omega) (Drawn.pos (by omega) (Drawn.pos (by omega) last))
            · exact Drawn.neg c5 (Drawn.pure hs5 (by omega) (hqi.mono (by omega)))
end Go.Proofs.Ytcgnnfaemjjljaa.Pure
