/- Whether a shape tiles with a lattice: the program's answer and the reference's, for whatever cells of small coordinates and valid lattices. -/
import Derived.Test.YtcgnnfaemjjljaaVIndex
import Derived.Test.YtcgnnfaemjjljaaQ17
import Derived.Test.YtcgnnfaemjjljaaQGimplLatticetiles
import Derived.Test.YtcgnnfaemjjljaaQ0
import Derived.Test.YtcgnnfaemjjljaaOpn
namespace Go.Proofs.Ytcgnnfaemjjljaa.Pure
open Go.RowKit Go.Proofs.Ytcgnnfaemjjljaa Go.Proofs.Ytcgnnfaemjjljaa.Q Go.Proofs.YtcgnnfaemjjljaaW.PrintWords
set_option linter.unusedVariables false
set_option linter.unusedSimpArgs false

def key (w s h : Int) (c : Cell) : Int × Int := cm c.f0 c.f1 w s h
def Small (l : List Cell) : Prop := ∀ c ∈ l, (-1000000 ≤ c.f0 ∧ c.f0 ≤ 1000000) ∧ -1000000 ≤ c.f1 ∧ c.f1 ≤ 1000000
theorem Sh_small {l : List Cell} (h : Sh l = true) : Small l := fun c hc => by have := Sh_co h c hc; omega
/-- No two cells are equal modulo the lattice, and none to one that was seen. -/
def tl (w s h : Int) : List Cell → List Cell → Bool
  | [], _ => true
  | c :: r, seen => if 0 ≤ ixAt (key w s h c) 0 seen then false else tl w s h r (seen ++ [cc (key w s h c)])
def til (l : List Cell) (w s h : Int) : Bool := if w * h = (l.length : Int) then tl w s h l [] else false

theorem l24Tiles_eq (l : List Cell) {w s h : Int} (hL : Lat w s h = true) (hs : Small l) (hl : l.length ≤ 1000000) : Evt (fun k => spec_l24Tiles.f k l w s h) (til l w s h) := by
  obtain ⟨w0, w1, h0, h1, s0, s1⟩ := Lat_iff.1 hL
  have hm := mul_small (q := w) (s := h) (by omega) (by omega) (by omega) (by omega)
  unfold spec_l24Tiles.f til
  rw [w64 (by omega) (by omega)]
  by_cases hc : w * h = (l.length : Int)
  · rw [if_pos hc]
    refine Evt.ite_pos hc ?_
    refine Evt.upS (g := fun k i seen => spec_l24Tiles.l0 k l seen (i : Int) w s h) (R := fun i seen => tl w s h (l.drop i) seen) (P := fun i seen => seen.length = i) (n := l.length) ?_ ?_ 0 [] (Nat.zero_le _) rfl
    · rintro seen _
      refine Evt.step (fun k => rfl) ?_
      simp only [spec_l24Tiles.l0]
      refine Evt.ite_neg (by omega) ?_
      rw [List.drop_length]
      exact Evt.pure
    · rintro i seen hi hp ih
      refine Evt.step (fun k => rfl) ?_
      have hb := hs (l.getD i z37) (by rw [List.getD_eq_getElem?_getD, List.getElem?_eq_getElem hi]; exact List.getElem_mem hi)
      simp only [spec_l24Tiles.l0, rd_getD, l24Cell_eq hL hb.1.1 hb.1.2 hb.2.1 hb.2.2, Option.bind_some]
      refine Evt.ite_pos (by omega) (Evt.ite_pos (by omega) ?_)
      refine Evt.bind (l02Index_eq seen _ _ (by omega)) ?_
      rw [drop_getD l i z37 hi]
      unfold tl
      by_cases hx : 0 ≤ ixAt (key w s h (l.getD i z37)) 0 seen
      · rw [if_pos hx]
        exact Evt.ite_pos hx Evt.pure
      · rw [if_neg hx]
        refine Evt.ite_neg hx (Evt.ite_pos (by omega) ?_)
        rw [wrap_succ hi (by omega)]
        exact ih _ (by simp [hp])
  · rw [if_neg hc]
    exact Evt.ite_neg hc Evt.pure

theorem tl_iff (w s h : Int) : ∀ (l seen : List Cell), tl w s h l seen = true ↔ (l.map (key w s h)).Nodup ∧ ∀ c ∈ l, cc (key w s h c) ∉ seen
  | [], seen => by simp [tl]
  | c :: r, seen => by
    unfold tl
    have hm := ixAt_mem (key w s h c) seen 0
    by_cases hx : 0 ≤ ixAt (key w s h c) 0 seen
    · rw [if_pos hx]
      simp only [Bool.false_eq_true, false_iff, not_and]
      intro _ h2
      exact h2 c List.mem_cons_self (hm.1 hx)
    · rw [if_neg hx, tl_iff w s h r]
      have hns : cc (key w s h c) ∉ seen := fun h2 => hx (hm.2 h2)
      simp only [List.map_cons, List.nodup_cons, List.mem_append, List.mem_singleton, not_or, List.mem_map, not_exists, not_and, List.mem_cons]
      constructor
      · rintro ⟨h1, h2⟩
        refine ⟨⟨fun d hd he => (h2 d hd).2.1 (by rw [he]), h1⟩, ?_⟩
        rintro d (rfl | hd)
        · exact hns
        · exact (h2 d hd).1
      · rintro ⟨⟨h1, h2⟩, h3⟩
        exact ⟨h2, fun d hd => ⟨h3 d (Or.inr hd), fun he => h1 d hd (cc_inj he), by simp⟩⟩
theorem mget_some {κ ε : Type} [DecidableEq κ] : ∀ (L : List (κ × ε)) (x : κ), (mget L x).isSome = true ↔ x ∈ L.map Prod.fst
  | [], x => by simp [mget]
  | p :: r, x => by
    unfold mget
    by_cases h : p.1 = x
    · rw [if_pos h]; simp [h]
    · rw [if_neg h, mget_some r x]
      simp only [List.map_cons, List.mem_cons]
      constructor
      · exact fun h2 => Or.inr h2
      · rintro (h2 | h2)
        · exact absurd h2.symm h
        · exact h2
theorem mlen_nodup {κ ε : Type} [DecidableEq κ] : ∀ (L : List (κ × ε)), mlen L = L.length ↔ (L.map Prod.fst).Nodup
  | [] => by simp [mlen]
  | p :: r => by
    have ih := mlen_nodup r
    have hle := mlen_le r
    have hs := mget_some r p.1
    unfold mlen
    rw [List.map_cons, List.nodup_cons, ← ih]
    by_cases h : (mget r p.1).isSome = true
    · rw [if_pos h]
      simp only [List.length_cons]
      constructor
      · intro e; omega
      · intro e; exact absurd (hs.1 h) e.1
    · rw [if_neg h]
      simp only [List.length_cons]
      constructor
      · intro e; exact ⟨fun h2 => h (hs.2 h2), by omega⟩
      · intro e; omega
theorem rng_of {x : Int} (h0 : -9223372036854775808 ≤ x) (h1 : x ≤ 9223372036854775807) : rng x = true := by
  unfold rng
  simp [h0, h1]
theorem cm_rng {x y w s h : Int} (hL : Lat w s h = true) : (rng (cm x y w s h).1 && rng (cm x y w s h).2) = true := by
  obtain ⟨w0, w1, h0, h1, s0, s1⟩ := Lat_iff.1 hL
  unfold cm
  have a := Int.emod_nonneg (x - y / h * s) (by omega : w ≠ 0)
  have b := Int.emod_lt_of_pos (x - y / h * s) (by omega : 0 < w)
  have c := Int.emod_nonneg y (by omega : h ≠ 0)
  have d := Int.emod_lt_of_pos y (by omega : 0 < h)
  rw [rng_of (by simp only; omega) (by simp only; omega), rng_of (by simp only; omega) (by simp only; omega)]
  rfl
theorem tiles_l {w s h : Int} (hL : Lat w s h = true) : ∀ (r : List Cell) (L : List ((Int × Int) × Bool)), Small r → impl_Lattice_tiles.l w s h r L = some ((r.map fun c => (key w s h c, true)).reverse ++ L)
  | [], L, _ => rfl
  | c :: r, L, hs => by
    have hb := hs c List.mem_cons_self
    unfold impl_Lattice_tiles.l
    rw [modulo_eq hL hb.1.1 hb.1.2 hb.2.1 hb.2.2]
    simp only [Option.bind_some]
    rw [if_pos (cm_rng hL), tiles_l hL r _ (fun d hd => hs d (List.mem_cons_of_mem _ hd))]
    simp [key]
theorem tiles_eq (l : List Cell) {w s h : Int} (hL : Lat w s h = true) (hs : Small l) : impl_Lattice_tiles.f w s h l = some (til l w s h) := by
  obtain ⟨w0, w1, h0, h1, s0, s1⟩ := Lat_iff.1 hL
  have hm := mul_small (q := w) (s := h) (by omega) (by omega) (by omega) (by omega)
  unfold impl_Lattice_tiles.f til
  rw [tiles_l hL l [] hs]
  simp only [Option.bind_some, List.append_nil]
  rw [w64 (by omega) (by omega)]
  by_cases hc : w * h = (l.length : Int)
  · rw [if_pos hc, if_pos hc]
    congr 1
    have h1 := tl_iff w s h l []
    have h2 := mlen_nodup (l.map fun c => (key w s h c, true)).reverse
    have e : ((l.map fun c => (key w s h c, true)).reverse.map Prod.fst).Nodup ↔ (l.map (key w s h)).Nodup := by
      rw [List.map_reverse, (List.reverse_perm _).nodup_iff, List.map_map]
      exact Iff.rfl
    rw [e, List.length_reverse, List.length_map] at h2
    rw [Bool.eq_iff_iff, decide_eq_true_iff, h1]
    simp only [List.not_mem_nil, not_false_eq_true, implies_true, and_true]
    rw [← h2]
    omega
  · rw [if_neg hc, if_neg hc]
end Go.Proofs.Ytcgnnfaemjjljaa.Pure
