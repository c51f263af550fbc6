/- The reference's draws of a cell, a shape and a lattice end; the program's answers on them are the reference's. -/
import Derived.Test.YtcgnnfaemjjljaaVDraw3
import Derived.Test.YtcgnnfaemjjljaaVLatSpec
import Derived.Test.YtcgnnfaemjjljaaQ3
import Derived.Test.YtcgnnfaemjjljaaQ4
import Derived.Test.YtcgnnfaemjjljaaQ6
import Derived.Test.YtcgnnfaemjjljaaQ8
import Derived.Test.YtcgnnfaemjjljaaQ19
import Derived.Test.YtcgnnfaemjjljaaQ22
import Derived.Test.YtcgnnfaemjjljaaQ0
import Derived.Test.YtcgnnfaemjjljaaOpn
namespace Go.Proofs.Ytcgnnfaemjjljaa.Pure
open Go.RowKit Go.Proofs.Ytcgnnfaemjjljaa Go.Proofs.Ytcgnnfaemjjljaa.Q Go.Proofs.YtcgnnfaemjjljaaW.PrintWords
set_option linter.unusedVariables false
set_option linter.unusedSimpArgs false

theorem wrap64_le (n : Int) : wrap64 n ≤ 9223372036854775807 := by unfold wrap64; omega
theorem dtile_both (l : List Cell) (w s h : Int) (hl : l.length ≤ 1048576) : Both (fun k => spec_DoesTile.f k l w s h) (fun k => impl_DoesTile.f k l w s h) := by
  unfold spec_DoesTile.f impl_DoesTile.f
  refine Both.bindl (spec_IsShape_eq l (by omega)) (Both.bindr (impl_IsShape_eq l (by omega)) ?_)
  cases hS : Sh l
  · exact Both.pure
  · simp only [if_true, isLattice_spec, isLattice_impl, Option.bind_some]
    cases hL : Lat w s h
    · exact Both.pure
    · have hb := Sh_len hS
      simp only [if_true, tiles_eq l hL (Sh_small hS), Option.bind_some]
      refine Both.bindl (l24Tiles_eq l hL (Sh_small hS) (by omega)) Both.pure
theorem cmod_both (x y w s h : Int) : ∃ r : Int × Int × Int, spec_CellModulo.f x y w s h = some r ∧ impl_CellModulo.f x y w s h = some r ∧ (r.2.2 = 0 → Co x = true ∧ Co y = true ∧ Lat w s h = true ∧ r.1 = (cm x y w s h).1 ∧ r.2.1 = (cm x y w s h).2) := by
  unfold spec_CellModulo.f impl_CellModulo.f
  rw [l02Cell_eq, isCoordinate_eq, isCoordinate_eq, isLattice_spec, isLattice_impl]
  simp only [Option.bind_some]
  cases cx : Co x
  · exact ⟨(0, 0, 2), rfl, rfl, fun h => absurd h (by decide)⟩
  · cases cy : Co y
    · exact ⟨(0, 0, 2), rfl, rfl, fun h => absurd h (by decide)⟩
    · cases cl : Lat w s h
      · exact ⟨(0, 0, 2), rfl, rfl, fun h => absurd h (by decide)⟩
      · have hx := Co_iff.1 cx
        have hy := Co_iff.1 cy
        simp only [Bool.and_self, if_true]
        rw [l24Cell_eq cl (by omega) (by omega) (by omega) (by omega), modulo_eq cl (by omega) (by omega) (by omega) (by omega)]
        exact ⟨((cm x y w s h).1, (cm x y w s h).2, 0), rfl, rfl, fun _ => by simp⟩
/-- A cell of the box is itself modulo the lattice. -/
theorem cm_self {x y w s h : Int} (x0 : 0 ≤ x) (x1 : x < w) (y0 : 0 ≤ y) (y1 : y < h) : cm x y w s h = (x, y) := by
  unfold cm
  rw [Int.ediv_eq_zero_of_lt y0 y1, Int.emod_eq_of_lt y0 y1, Int.zero_mul, Int.sub_zero, Int.emod_eq_of_lt x0 x1]
theorem sub_emod_tmod (a m : Int) (hm : 0 < m) : Int.tmod (a - a % m) m = 0 := by
  have h := Int.mul_ediv_add_emod a m
  have h2 : a - a % m = m * (a / m) := by omega
  rw [h2]
  exact Int.tmod_eq_zero_of_dvd ⟨_, rfl⟩
theorem lat_draw_ok {l : List Int} (hb : Bytes l) {a s : Int} (hs : Src l a s) : ∃ r, spec_l24Draw.f l a s = some r := by
  unfold spec_l24Draw.f
  obtain ⟨x, a1, s1, hx, hs1, x0, x1, _⟩ := next_ok hb hs 6 (by omega)
  obtain ⟨y, a2, s2, hy, hs2, y0, y1, _⟩ := next_ok hb hs1 4 (by omega)
  obtain ⟨z, a3, s3, hz, hs3, z0, z1, _⟩ := next_ok hb hs2 (wrap64 (1 + x)) (wrap64_le _)
  obtain ⟨t, a4, s4, ht, hs4, t0, t1, _⟩ := next_ok hb hs3 24 (by omega)
  obtain ⟨u, a5, s5, hu, hs5, u0, u1, _⟩ := next_ok hb hs4 3 (by omega)
  obtain ⟨v, a6, s6, hv, hs6, v0, v1, _⟩ := next_ok hb hs4 2 (by omega)
  have u2 := u1 (by omega)
  have v2 := v1 (by omega)
  simp only [hx, hy, hz, ht, hu, hv, Option.bind_some, List.length_cons, List.length_nil]
  by_cases c0 : t = 0
  · rw [if_pos c0, if_pos u0, if_pos (by omega)]; exact ⟨_, rfl⟩
  · rw [if_neg c0]
    by_cases c1 : t = 1
    · rw [if_pos c1, if_pos u0, if_pos (by omega)]; exact ⟨_, rfl⟩
    · rw [if_neg c1]
      by_cases c2 : t = 2
      · rw [if_pos c2, if_pos v0, if_pos (by omega)]; exact ⟨_, rfl⟩
      · rw [if_neg c2]; exact ⟨_, rfl⟩
theorem draw_cell_ok {l : List Int} (hb : Bytes l) : ∃ r, spec_DrawCellModulo.f l = some r := by
  unfold spec_DrawCellModulo.f
  obtain ⟨s, hf, hs⟩ := from_ok hb
  obtain ⟨x, a1, s1, hx, hs1, x0, x1, _⟩ := next_ok hb hs 21 (by omega)
  obtain ⟨y, a2, s2, hy, hs2, y0, y1, _⟩ := next_ok hb hs1 21 (by omega)
  obtain ⟨z, a3, s3, hz, hs3, z0, z1, _⟩ := next_ok hb hs2 16 (by omega)
  obtain ⟨u, a5, s5, hu, hs5, u0, u1, _⟩ := next_ok hb hs3 3 (by omega)
  have u2 := u1 (by omega)
  obtain ⟨r1, h1⟩ := lat_draw_ok hb hs3
  obtain ⟨r2, h2⟩ := lat_draw_ok hb hs5
  simp only [hf, hx, hy, hz, hu, Option.bind_some, List.length_cons, List.length_nil, h1, h2]
  by_cases c0 : z = 0
  · rw [if_pos c0, if_pos u0, if_pos (by omega)]; exact ⟨_, rfl⟩
  · rw [if_neg c0]; exact ⟨_, rfl⟩
theorem draw_tile_ok {l : List Int} (hb : Bytes l) : ∃ r, Evt (fun k => spec_DrawDoesTile.f k l) r ∧ r.1.length ≤ 50 := by
  unfold spec_DrawDoesTile.f
  obtain ⟨s, hf, hs⟩ := from_ok hb
  obtain ⟨p, a1, s1, hp, hs1, hpl, hpi⟩ := draw_ok hb hs
  obtain ⟨x, a2, s2, hx, hs2, x0, x1, _⟩ := next_ok hb hs1 2 (by omega)
  simp only [hf, Option.bind_some]
  have fin : ∀ (b : Bool) {a s : Int}, Src l a s → (b = true → Sh p = true) → ∃ r, Evt (fun k => spec_DrawDoesTile.j0 k p b l a s) r ∧ r.1.length ≤ 50 := by
    intro b a s hs hb2
    obtain ⟨t, ht⟩ := lat_draw_ok hb hs
    cases b with
    | false =>
      refine ⟨(p, t.1, t.2.1, t.2.2.1), Evt.step (fun k => rfl) ?_, hpl⟩
      simp only [spec_DrawDoesTile.j0, Bool.false_eq_true, if_false, ht, Option.bind_some]
      exact Evt.pure
    | true =>
      obtain ⟨ls, hl1⟩ := lattices_end p (hb2 rfl)
      by_cases hz : (ls.length : Int) > 0
      · obtain ⟨u, a3, s3, hu, hs3, u0, u1, _⟩ := next_any hb hs (ls.length : Int)
        have u2 := u1 (by omega)
        refine ⟨(p, (rd_T30 ls u).f0, (rd_T30 ls u).f1, (rd_T30 ls u).f2), Evt.step (fun k => rfl) ?_, hpl⟩
        simp only [spec_DrawDoesTile.j0, if_true]
        refine hl1.bind (Evt.ite_pos hz ?_)
        simp only [hu, Option.bind_some]
        exact Evt.ite_pos u0 (Evt.ite_pos u2 Evt.pure)
      · refine ⟨(p, t.1, t.2.1, t.2.2.1), Evt.step (fun k => rfl) ?_, hpl⟩
        simp only [spec_DrawDoesTile.j0, if_true]
        refine hl1.bind (Evt.ite_neg hz ?_)
        simp only [ht, Option.bind_some]
        exact Evt.pure
  cases hS : Sh p with
  | false =>
    obtain ⟨r, h1, h2⟩ := fin false hs1 (fun h => by cases h)
    refine ⟨r, hp.bind ((spec_IsShape_eq p (by omega)).bind ?_), h2⟩
    simp only [hS, Bool.false_eq_true, if_false]
    exact h1
  | true =>
    obtain ⟨r, h1, h2⟩ := fin (x == 0) hs2 (fun _ => hS)
    refine ⟨r, hp.bind ((spec_IsShape_eq p (by omega)).bind ?_), h2⟩
    simp only [hS, if_true, hx, Option.bind_some]
    exact h1
end Go.Proofs.Ytcgnnfaemjjljaa.Pure
