/- The law FnModulo: for every code: big codes answer at once; on the rest the program's answers are the reference's, and a cell modulo a lattice is one of the box, equal to the cell modulo the lattice. -/
import Derived.Test.YtcgnnfaemjjljaaVDraw4
import Derived.Test.YtcgnnfaemjjljaaQ2
import Derived.Test.YtcgnnfaemjjljaaQ6
import Derived.Test.YtcgnnfaemjjljaaQ23
import Derived.Test.YtcgnnfaemjjljaaUFnModulo
import Derived.Test.YtcgnnfaemjjljaaQ0
import Derived.Test.YtcgnnfaemjjljaaOpn
namespace Go.Proofs.Ytcgnnfaemjjljaa.Pure
open Go.RowKit Go.Proofs.Ytcgnnfaemjjljaa Go.Proofs.Ytcgnnfaemjjljaa.Q Go.Proofs.Ytcgnnfaemjjljaa.UFnModulo Go.Proofs.YtcgnnfaemjjljaaW.PrintWords
set_option linter.unusedVariables false
set_option linter.unusedSimpArgs false

theorem j0_ok {x y w s h : Int} (cx : Co x = true) (cy : Co y = true) (hL : Lat w s h = true) : Evt (fun k => laws_FnModulo.j0 k 0 false x y w s h (cm x y w s h).1 (cm x y w s h).2) true := by
  have hx := Co_iff.1 cx
  have hy := Co_iff.1 cy
  obtain ⟨w0, w1, h0, h1, s0, s1⟩ := Lat_iff.1 hL
  have b0 := Int.emod_nonneg (x - y / h * s) (by omega : w ≠ 0)
  have b1 := Int.emod_lt_of_pos (x - y / h * s) (by omega : 0 < w)
  have b2 := Int.emod_nonneg y (by omega : h ≠ 0)
  have b3 := Int.emod_lt_of_pos y (by omega : 0 < h)
  have hq := div_abs y h 1000000 h0 (by omega) (by omega)
  have hs := mul_small hq.1 hq.2 s0 (by omega)
  have hsub : ∀ A B : Int, x - A % w - B = (x - B) - A % w := fun A B => by omega
  refine Evt.step (fun k => rfl) ?_
  obtain ⟨r, -, e2, e3⟩ := cmod_both (cm x y w s h).1 (cm x y w s h).2 w s h
  have cself : cm (cm x y w s h).1 (cm x y w s h).2 w s h = ((cm x y w s h).1, (cm x y w s h).2) := cm_self b0 b1 b2 b3
  have er : r = ((cm x y w s h).1, (cm x y w s h).2, 0) := by
    have e4 := e2
    unfold impl_CellModulo.f at e4
    have c1 : Co (cm x y w s h).1 = true := Co_iff.2 ⟨by simp only [cm]; omega, by simp only [cm]; omega⟩
    have c2 : Co (cm x y w s h).2 = true := Co_iff.2 ⟨by simp only [cm]; omega, by simp only [cm]; omega⟩
    rw [isCoordinate_eq, isCoordinate_eq, isLattice_impl, c1, c2, hL] at e4
    have u1 := Co_iff.1 c1
    have u2 := Co_iff.1 c2
    simp only [Option.bind_some, if_true, modulo_eq hL (by omega : -1000000 ≤ (cm x y w s h).1) (by omega) (by omega : -1000000 ≤ (cm x y w s h).2) (by omega), cself] at e4
    exact (Option.some.inj e4).symm
  rw [er] at e2
  simp only [laws_FnModulo.j0, Bool.false_eq_true, if_false, if_true, e2, Option.bind_some]
  simp only [beq_self_eq_true, Bool.and_self, if_true]
  have k1 : Int.tmod (wrap64 (y - (cm x y w s h).2)) h = 0 := by
    simp only [cm]
    rw [w64 (n := y - y % h) (by omega) (by omega)]
    exact sub_emod_tmod y h (by omega)
  have k2 : Int.tmod (wrap64 ((wrap64 (x - (cm x y w s h).1)) - (wrap64 ((wrap64 (Int.tdiv (wrap64 (y - (cm x y w s h).2)) h)) * s)))) w = 0 := by
    simp only [cm]
    rw [w64 (n := y - y % h) (by omega) (by omega), floor_div y h (by omega), w64 (n := y / h) (by omega) (by omega), w64 (n := y / h * s) (by omega) (by omega), w64 (n := x - _) (by omega) (by omega), w64 (by omega) (by omega), hsub]
    exact sub_emod_tmod _ w (by omega)
  have b4 : (cm x y w s h).2 < h := b3
  refine Evt.ite_neg (by omega) (Evt.ite_pos k1 (Evt.ite_neg (by omega) (Evt.ite_pos k2 (Evt.ite_pos b0 (Evt.ite_pos b1 (Evt.ite_pos b2 ?_))))))
  rw [decide_eq_true b4]
  exact Evt.pure
theorem FnModulo : laws_FnModulo_Pure := by
  intro l hl _
  apply Evt.out
  unfold laws_FnModulo.f laws_big.f
  simp only [Option.bind_some]
  by_cases hbig : (l.length : Int) > 4096
  · rw [decide_eq_true hbig]
    exact Evt.ite_pos rfl Evt.pure
  · rw [decide_eq_false hbig]
    have hb : Bytes l := bytes_of hl.2 (by omega)
    obtain ⟨⟨x, y, w, s, h⟩, hd⟩ := draw_cell_ok hb
    obtain ⟨⟨p, w2, s2, h2⟩, hd2, hpl⟩ := draw_tile_ok hb
    obtain ⟨⟨a, b, e⟩, m1, m2, m3⟩ := cmod_both x y w s h
    obtain ⟨⟨c, d⟩, t1, t2⟩ := dtile_both p w2 s2 h2 (by simp only at hpl; omega)
    simp only [Bool.false_eq_true, if_false, hd, m1, m2, Option.bind_some]
    refine hd2.bind (t2.bind (t1.bind ?_))
    simp only [if_true, isLattice_spec, isLattice_impl, Option.bind_some, beq_self_eq_true, Bool.not_true, Bool.or_self, Bool.false_eq_true, if_false, bne_self_eq_false]
    by_cases he : e = 0
    · obtain ⟨cx, cy, hL, ea, eb⟩ := m3 he
      simp only at ea eb
      rw [he, ea, eb]
      exact j0_ok cx cy hL
    · refine Evt.step (fun k => rfl) ?_
      simp only [laws_FnModulo.j0, Bool.false_eq_true, if_false, if_neg he]
      exact Evt.pure
end Go.Proofs.Ytcgnnfaemjjljaa.Pure
