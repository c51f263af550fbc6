/- Written by a program of this session (wip/tools/pp.py) out of the translation, with the kit's printer. -/
import Derived.Test.YtcgnnfaemjjljaaQ0
import Derived.Test.YtcgnnfaemjjljaaQ2
import Derived.Test.YtcgnnfaemjjljaaQ4
import Derived.Test.YtcgnnfaemjjljaaQ5
import Derived.Test.YtcgnnfaemjjljaaQ6
import Derived.Test.YtcgnnfaemjjljaaQ7
import Derived.Test.YtcgnnfaemjjljaaQ8
import Derived.Test.YtcgnnfaemjjljaaQ19
import Derived.Test.YtcgnnfaemjjljaaQ22
import Derived.Test.YtcgnnfaemjjljaaQ1
namespace Go.Proofs.Ytcgnnfaemjjljaa.Q
open Go.RowKit Go.Proofs.YtcgnnfaemjjljaaW.PrintWords Go.Proofs.YtcgnnfaemjjljaaW.PrintLast Go.Proofs.YtcgnnfaemjjljaaW.PrintMore
attribute [local go_sem] max2_int min2_int max_two min_two max_three min_three max_four min_four
set_option linter.unusedVariables false
set_option linter.unusedSimpArgs false

attribute [local go_sem high] eqA37
/-! ### laws_FnModulo: function 4 -/
abbrev laws_FnModulo.m0 : Array Bool := #[false, false, false, false, false, false, false, false, false, false, false, false, false, false, false, false, false, false, false, false, false, false, false, false, false]
abbrev laws_FnModulo.m1 : Array Bool := #[true, false, false, false, false, false, false, false, false, false, false, false, false, false, false, false, false, false, false, false, false, false, false, false, false]
abbrev laws_FnModulo.m2 : Array Bool := #[true, true, false, false, false, false, false, false, false, false, false, false, false, false, false, false, false, false, false, false, false, false, false, false, false]
abbrev laws_FnModulo.m3 : Array Bool := #[true, true, true, false, false, false, false, false, false, false, false, false, false, false, false, false, false, false, false, false, false, false, false, false, false]
abbrev laws_FnModulo.m4 : Array Bool := #[true, true, true, true, false, false, false, false, false, false, false, false, false, false, false, false, false, false, false, false, false, false, false, false, false]
abbrev laws_FnModulo.m5 : Array Bool := #[true, true, true, true, true, false, false, false, false, false, false, false, false, false, false, false, false, false, false, false, false, false, false, false, false]
abbrev laws_FnModulo.m6 : Array Bool := #[true, true, true, true, true, true, false, false, false, false, false, false, false, false, false, false, false, false, false, false, false, false, false, false, false]
abbrev laws_FnModulo.m7 : Array Bool := #[true, true, true, true, true, true, true, false, false, false, false, false, false, false, false, false, false, false, false, false, false, false, false, false, false]
abbrev laws_FnModulo.m8 : Array Bool := #[true, true, true, true, true, true, true, true, false, false, false, false, false, false, false, false, false, false, false, false, false, false, false, false, false]
abbrev laws_FnModulo.m9 : Array Bool := #[true, true, true, true, true, true, true, true, true, false, false, false, false, false, false, false, false, false, false, false, false, false, false, false, false]
abbrev laws_FnModulo.m10 : Array Bool := #[true, true, true, true, true, true, true, true, true, true, false, false, false, false, false, false, false, false, false, false, false, false, false, false, false]
abbrev laws_FnModulo.m11 : Array Bool := #[true, true, true, true, true, true, true, true, true, true, true, false, false, false, false, false, false, false, false, false, false, false, false, false, false]
abbrev laws_FnModulo.m12 : Array Bool := #[true, true, true, true, true, true, true, true, true, true, true, true, false, false, false, false, false, false, false, false, false, false, false, false, false]
abbrev laws_FnModulo.m13 : Array Bool := #[true, true, true, true, true, true, true, true, true, true, true, true, true, false, false, false, false, false, false, false, false, false, false, false, false]
abbrev laws_FnModulo.m14 : Array Bool := #[true, true, true, true, true, true, true, true, true, true, true, true, true, true, false, false, false, false, false, false, false, false, false, false, false]
abbrev laws_FnModulo.m15 : Array Bool := #[true, true, true, true, true, true, true, true, true, true, true, true, true, true, true, false, false, false, false, false, false, false, false, false, false]
abbrev laws_FnModulo.m16 : Array Bool := #[true, true, true, true, true, true, true, true, true, true, true, true, true, true, true, true, false, false, false, false, false, false, false, false, false]
abbrev laws_FnModulo.m17 : Array Bool := #[true, true, true, true, true, true, true, true, true, true, true, true, true, true, true, true, true, false, false, false, false, false, false, false, false]
abbrev laws_FnModulo.m18 : Array Bool := #[true, true, true, true, true, true, true, true, true, true, true, true, true, true, true, true, true, true, false, false, false, false, false, false, false]
abbrev laws_FnModulo.m19 : Array Bool := #[true, true, true, true, true, true, true, true, true, true, true, true, true, true, true, true, true, true, true, false, false, false, false, false, false]
abbrev laws_FnModulo.m20 : Array Bool := #[true, true, true, true, true, true, true, true, true, true, true, true, true, true, true, true, true, true, true, true, false, false, false, false, false]
abbrev laws_FnModulo.m21 : Array Bool := #[true, true, true, true, true, true, true, true, true, true, true, true, true, true, true, true, true, true, true, true, true, false, false, false, false]
abbrev laws_FnModulo.m22 : Array Bool := #[true, true, true, true, true, true, true, true, true, true, true, true, true, true, true, true, true, true, true, true, true, true, false, false, false]
abbrev laws_FnModulo.m23 : Array Bool := #[true, true, true, true, true, true, true, true, true, true, true, true, true, true, true, true, true, true, true, true, true, true, true, false, false]
abbrev laws_FnModulo.m24 : Array Bool := #[true, true, true, true, true, true, true, true, true, true, true, true, true, true, true, true, true, true, true, true, true, true, true, true, false]
abbrev laws_FnModulo.m25 : Array Bool := #[true, true, true, true, true, true, true, true, true, true, true, true, true, true, true, true, true, true, true, true, true, true, true, true, true]
def laws_FnModulo.j0 : Nat → Int → Bool → Int → Int → Int → Int → Int → Int → Int → Option (Bool)
 | 0, _, _, _, _, _, _, _, _, _ => none
 | k + 1, x6, x78, x435000, x435001, x436000, x436001, x436002, x440000, x440001 => if x78 = true then (some false) else (if x6 = 0 then ((impl_CellModulo.f x440000 x440001 x436000 x436001 x436002).bind fun bt457 => (if x436002 = 0 then (none) else (if bt457.2.2 = 0 then (if (bt457.1 == x440000 && (bt457.2.1 == x440001)) = true then (if (Int.tmod (wrap64 (x435001 - x440001)) x436002) = 0 then (if x436000 = 0 then (none) else (if (Int.tmod (wrap64 ((wrap64 (x435000 - x440000)) - (wrap64 ((wrap64 (Int.tdiv (wrap64 (x435001 - x440001)) x436002)) * x436001)))) x436000) = 0 then (if x440000 ≥ 0 then (if x440000 < x436000 then (if x440001 ≥ 0 then (some (decide (x440001 < x436002))) else (some false)) else (some false)) else (some false)) else (some false))) else (some false)) else (some false)) else (some false)))) else (some true))
def laws_FnModulo.f (k : Nat) (l0 : List Int) : Option (Bool) := (laws_big.f l0).bind fun t428 => (if t428 = true then (some true) else ((spec_DrawCellModulo.f l0).bind fun bt429 => ((impl_CellModulo.f bt429.1 bt429.2.1 bt429.2.2.1 bt429.2.2.2.1 bt429.2.2.2.2).bind fun bt436 => ((spec_CellModulo.f bt429.1 bt429.2.1 bt429.2.2.1 bt429.2.2.2.1 bt429.2.2.2.2).bind fun bt440 => ((spec_DrawDoesTile.f k l0).bind fun bt444 => ((impl_DoesTile.f k bt444.1 bt444.2.1 bt444.2.2.1 bt444.2.2.2).bind fun bt451 => ((spec_DoesTile.f k bt444.1 bt444.2.1 bt444.2.2.1 bt444.2.2.2).bind fun bt453 => (if bt436.2.2 = bt440.2.2 then (if (!(bt436.1 == bt440.1) || (!(bt436.2.1 == bt440.2.1))) = true then (laws_FnModulo.j0 k bt436.2.2 true bt429.1 bt429.2.1 bt429.2.2.1 bt429.2.2.2.1 bt429.2.2.2.2 bt436.1 bt436.2.1) else (if bt451.2 = bt453.2 then (if (bt451.1 != bt453.1) = true then (laws_FnModulo.j0 k bt436.2.2 true bt429.1 bt429.2.1 bt429.2.2.1 bt429.2.2.2.1 bt429.2.2.2.2 bt436.1 bt436.2.1) else ((impl_IsLattice.f bt429.2.2.1 bt429.2.2.2.1 bt429.2.2.2.2).bind fun t455 => ((spec_IsLattice.f bt429.2.2.1 bt429.2.2.2.1 bt429.2.2.2.2).bind fun t456 => (laws_FnModulo.j0 k bt436.2.2 (t455 != t456) bt429.1 bt429.2.1 bt429.2.2.1 bt429.2.2.2.1 bt429.2.2.2.2 bt436.1 bt436.2.1)))) else (laws_FnModulo.j0 k bt436.2.2 true bt429.1 bt429.2.1 bt429.2.2.1 bt429.2.2.2.1 bt429.2.2.2.2 bt436.1 bt436.2.1))) else (laws_FnModulo.j0 k bt436.2.2 true bt429.1 bt429.2.1 bt429.2.2.1 bt429.2.2.2.1 bt429.2.2.2.2 bt436.1 bt436.2.1)))))))))
theorem laws_FnModulo.mono_l : ∀ k, (∀ y0 y1 y2 y3 y4 y5 y6 y7 y8, LeO (laws_FnModulo.j0 k y0 y1 y2 y3 y4 y5 y6 y7 y8) (laws_FnModulo.j0 (k + 1) y0 y1 y2 y3 y4 y5 y6 y7 y8))
 | 0 => fun _ _ _ _ _ _ _ _ _ r h => by simp [laws_FnModulo.j0] at h
 | k + 1 => by
  have ih0 := laws_FnModulo.mono_l k
  ·intro y0 y1 y2 y3 y4 y5 y6 y7 y8
   unfold laws_FnModulo.j0
   repeat' first
   | (with_reducible exact ih0 _ _ _ _ _ _ _ _ _)
   | (with_reducible exact impl_DoesTile.mono _ _ _ _ _)
   | (with_reducible exact spec_DoesTile.mono _ _ _ _ _)
   | (with_reducible exact spec_DrawDoesTile.mono _ _)
   | (with_reducible exact LeO.refl _)
   | (with_reducible exact LeO.none _)
   | (with_reducible refine LeO.ite ?_ ?_)
   | (with_reducible refine LeO.bind ?_ (fun _ => ?_))
   | exact ih0 _ _ _ _ _ _ _ _ _
   | exact impl_DoesTile.mono _ _ _ _ _
   | exact spec_DoesTile.mono _ _ _ _ _
   | exact spec_DrawDoesTile.mono _ _
   | exact LeO.none _
   | refine LeO.ite ?_ ?_
   | refine LeO.bind ?_ (fun _ => ?_)
theorem laws_FnModulo.mono : ∀ a0 k, LeO (laws_FnModulo.f k a0) (laws_FnModulo.f (k + 1) a0) := by
 intro a0 k
 have ih0 := laws_FnModulo.mono_l k
 unfold laws_FnModulo.f
 repeat' first
   | (with_reducible exact ih0 _ _ _ _ _ _ _ _ _)
   | (with_reducible exact impl_DoesTile.mono _ _ _ _ _)
   | (with_reducible exact spec_DoesTile.mono _ _ _ _ _)
   | (with_reducible exact spec_DrawDoesTile.mono _ _)
   | (with_reducible exact LeO.refl _)
   | (with_reducible exact LeO.none _)
   | (with_reducible refine LeO.ite ?_ ?_)
   | (with_reducible refine LeO.bind ?_ (fun _ => ?_))
   | exact ih0 _ _ _ _ _ _ _ _ _
   | exact impl_DoesTile.mono _ _ _ _ _
   | exact spec_DoesTile.mono _ _ _ _ _
   | exact spec_DrawDoesTile.mono _ _
   | exact LeO.none _
   | refine LeO.ite ?_ ?_
   | refine LeO.bind ?_ (fun _ => ?_)
def laws_FnModulo.T9 : Bool × List (List Nat × List Nat) := (true, [([], []), ([], []), ([0, 1], [0, 1]), ([2], [2]), ([3], [3]), ([3], [3]), ([4, 5, 3], [3, 4, 5]), ([3, 6], [3, 6]), ([7, 3], [7]), ([8], [8]), ([8], [8]), ([9, 10, 8], [8, 9, 10]), ([8, 11], [8, 11]), ([12, 8], [12]), ([13], [13]), ([13], [13]), ([14, 15, 13], [13, 14, 15]), ([13, 16], [13, 16]), ([17, 13], [17]), ([18], [18]), ([19, 18, 18], [18, 19]), ([18], [18]), ([21, 20, 18], [18, 21]), ([20, 22, 18], [18, 20, 22]), ([18, 23], [18, 23])])
def laws_FnModulo.B9 : List Nat := [0, 0, 3, 7, 15, 15, 63, 127, 255, 511, 511, 2047, 4095, 8191, 16383, 16383, 65535, 131071, 262143, 524287, 1048575, 524287, 4194303, 8388607, 16777215]
theorem laws_FnModulo.tab9 : rtab .any (opsOf Try.f4 9) = laws_FnModulo.T9 := by kernel_rfl
theorem laws_FnModulo.bits9 : waitsOk laws_FnModulo.T9.2 laws_FnModulo.B9 = true := by kernel_rfl
set_option maxHeartbeats 8000000 in
set_option maxRecDepth 100000 in
theorem laws_FnModulo.calls (k : Nat) (A0 : Option Addr) (c0 : Nat) (l0 : List Int) (w : World) (hr0 : Kd.C (Kd.int .u8) w A0 l0.length l0) (hc0 : l0.length ≤ c0) (h : laws_FnModulo.f k l0 = some true) :
  Calls Try.prog 4 #[.slice A0 l0.length c0] w fun e w' => e = .returned (.bool true) ∧ Below w.heap.size w w' := by
 have hu37 := Try.underlying37
 have hu30 := Try.underlying30
 have HR0 := am hr0
 have HC0 := am hc0
 clear hr0 hc0
 have HB := am (Below.refl w.heap.size w)
 have H : ((laws_big.f l0).bind fun t428 => (if t428 = true then (some true) else ((spec_DrawCellModulo.f l0).bind fun bt429 => ((impl_CellModulo.f bt429.1 bt429.2.1 bt429.2.2.1 bt429.2.2.2.1 bt429.2.2.2.2).bind fun bt436 => ((spec_CellModulo.f bt429.1 bt429.2.1 bt429.2.2.1 bt429.2.2.2.1 bt429.2.2.2.2).bind fun bt440 => ((spec_DrawDoesTile.f k l0).bind fun bt444 => ((impl_DoesTile.f k bt444.1 bt444.2.1 bt444.2.2.1 bt444.2.2.2).bind fun bt451 => ((spec_DoesTile.f k bt444.1 bt444.2.1 bt444.2.2.1 bt444.2.2.2).bind fun bt453 => (if bt436.2.2 = bt440.2.2 then (if (!(bt436.1 == bt440.1) || (!(bt436.2.1 == bt440.2.1))) = true then (laws_FnModulo.j0 k bt436.2.2 true bt429.1 bt429.2.1 bt429.2.2.1 bt429.2.2.2.1 bt429.2.2.2.2 bt436.1 bt436.2.1) else (if bt451.2 = bt453.2 then (if (bt451.1 != bt453.1) = true then (laws_FnModulo.j0 k bt436.2.2 true bt429.1 bt429.2.1 bt429.2.2.1 bt429.2.2.2.1 bt429.2.2.2.2 bt436.1 bt436.2.1) else ((impl_IsLattice.f bt429.2.2.1 bt429.2.2.2.1 bt429.2.2.2.2).bind fun t455 => ((spec_IsLattice.f bt429.2.2.1 bt429.2.2.2.1 bt429.2.2.2.2).bind fun t456 => (laws_FnModulo.j0 k bt436.2.2 (t455 != t456) bt429.1 bt429.2.1 bt429.2.2.1 bt429.2.2.2.1 bt429.2.2.2.2 bt436.1 bt436.2.1)))) else (laws_FnModulo.j0 k bt436.2.2 true bt429.1 bt429.2.1 bt429.2.2.1 bt429.2.2.2.1 bt429.2.2.2.2 bt436.1 bt436.2.1))) else (laws_FnModulo.j0 k bt436.2.2 true bt429.1 bt429.2.1 bt429.2.2.1 bt429.2.2.2.1 bt429.2.2.2.2 bt436.1 bt436.2.1)))))))))) = some true := h
 clear h
 replace H := ob H
 obtain ⟨t428, A20, H⟩ := H
 replace H : (if t428 = true then (some true) else ((spec_DrawCellModulo.f l0).bind fun bt429 => ((impl_CellModulo.f bt429.1 bt429.2.1 bt429.2.2.1 bt429.2.2.2.1 bt429.2.2.2.2).bind fun bt436 => ((spec_CellModulo.f bt429.1 bt429.2.1 bt429.2.2.1 bt429.2.2.2.1 bt429.2.2.2.2).bind fun bt440 => ((spec_DrawDoesTile.f k l0).bind fun bt444 => ((impl_DoesTile.f k bt444.1 bt444.2.1 bt444.2.2.1 bt444.2.2.2).bind fun bt451 => ((spec_DoesTile.f k bt444.1 bt444.2.1 bt444.2.2.1 bt444.2.2.2).bind fun bt453 => (if bt436.2.2 = bt440.2.2 then (if (!(bt436.1 == bt440.1) || (!(bt436.2.1 == bt440.2.1))) = true then (laws_FnModulo.j0 k bt436.2.2 true bt429.1 bt429.2.1 bt429.2.2.1 bt429.2.2.2.1 bt429.2.2.2.2 bt436.1 bt436.2.1) else (if bt451.2 = bt453.2 then (if (bt451.1 != bt453.1) = true then (laws_FnModulo.j0 k bt436.2.2 true bt429.1 bt429.2.1 bt429.2.2.1 bt429.2.2.2.1 bt429.2.2.2.2 bt436.1 bt436.2.1) else ((impl_IsLattice.f bt429.2.2.1 bt429.2.2.2.1 bt429.2.2.2.2).bind fun t455 => ((spec_IsLattice.f bt429.2.2.1 bt429.2.2.2.1 bt429.2.2.2.2).bind fun t456 => (laws_FnModulo.j0 k bt436.2.2 (t455 != t456) bt429.1 bt429.2.1 bt429.2.2.1 bt429.2.2.2.1 bt429.2.2.2.2 bt436.1 bt436.2.1)))) else (laws_FnModulo.j0 k bt436.2.2 true bt429.1 bt429.2.1 bt429.2.2.1 bt429.2.2.2.1 bt429.2.2.2.2 bt436.1 bt436.2.1))) else (laws_FnModulo.j0 k bt436.2.2 true bt429.1 bt429.2.1 bt429.2.2.1 bt429.2.2.2.1 bt429.2.2.2.2 bt436.1 bt436.2.1))))))))) = some true := H
 have A2 := am A20
 clear A20
 by_cases c3 : t428 = true
 ·subst c3
  have H1 : (some true) = some true := by first | (rw [if_pos rfl] at H; exact H) | rfl
  clear H
  have H := H1
  clear H1
  clear H
  go_enter Try.func4, Try.ntmps4
  go_wp2_with (first | ((with_reducible refine gate_callee (f := 12) rfl ?_); refine goesL_ (some 19) rfl rfl Try.func12 (by kernel_rfl) rfl #[.slice A0 l0.length c0] rfl (by (try simp only [List.map_toArray, List.map_cons, List.map_nil]); first | done | rfl | (simp only [List.length_drop, List.length_take]; rfl)) ?_; (with_reducible refine (laws_big.calls _ _ l0 true _ ?side1 ?side2 A2.out).mono ?_); (case side1 => repeat (first | exact HR0.out | (with_reducible refine Kd.C_alloc ?_ _) | (with_reducible refine Kd.C_drewN ?_ _) | (with_reducible refine Kd.C_drew ?_))); (case side2 => exact HC0.out); rintro e w' ⟨rfl, ⟨nd, rfl⟩⟩; refine ⟨_, rfl, ?_⟩))
  go_ret
  exact ⟨by first | rfl | (simp [errW_none, errW_some] <;> rfl) | (simp [*, errW_none, errW_some] <;> rfl), by repeat (first | (with_reducible first | exact HB.out | apply b1 | apply b2 | apply b3) | exact HB.out)⟩
 ·replace c3 := ef c3
  subst c3
  have H1 : ((spec_DrawCellModulo.f l0).bind fun bt429 => ((impl_CellModulo.f bt429.1 bt429.2.1 bt429.2.2.1 bt429.2.2.2.1 bt429.2.2.2.2).bind fun bt436 => ((spec_CellModulo.f bt429.1 bt429.2.1 bt429.2.2.1 bt429.2.2.2.1 bt429.2.2.2.2).bind fun bt440 => ((spec_DrawDoesTile.f k l0).bind fun bt444 => ((impl_DoesTile.f k bt444.1 bt444.2.1 bt444.2.2.1 bt444.2.2.2).bind fun bt451 => ((spec_DoesTile.f k bt444.1 bt444.2.1 bt444.2.2.1 bt444.2.2.2).bind fun bt453 => (if bt436.2.2 = bt440.2.2 then (if (!(bt436.1 == bt440.1) || (!(bt436.2.1 == bt440.2.1))) = true then (laws_FnModulo.j0 k bt436.2.2 true bt429.1 bt429.2.1 bt429.2.2.1 bt429.2.2.2.1 bt429.2.2.2.2 bt436.1 bt436.2.1) else (if bt451.2 = bt453.2 then (if (bt451.1 != bt453.1) = true then (laws_FnModulo.j0 k bt436.2.2 true bt429.1 bt429.2.1 bt429.2.2.1 bt429.2.2.2.1 bt429.2.2.2.2 bt436.1 bt436.2.1) else ((impl_IsLattice.f bt429.2.2.1 bt429.2.2.2.1 bt429.2.2.2.2).bind fun t455 => ((spec_IsLattice.f bt429.2.2.1 bt429.2.2.2.1 bt429.2.2.2.2).bind fun t456 => (laws_FnModulo.j0 k bt436.2.2 (t455 != t456) bt429.1 bt429.2.1 bt429.2.2.1 bt429.2.2.2.1 bt429.2.2.2.2 bt436.1 bt436.2.1)))) else (laws_FnModulo.j0 k bt436.2.2 true bt429.1 bt429.2.1 bt429.2.2.1 bt429.2.2.2.1 bt429.2.2.2.2 bt436.1 bt436.2.1))) else (laws_FnModulo.j0 k bt436.2.2 true bt429.1 bt429.2.1 bt429.2.2.1 bt429.2.2.2.1 bt429.2.2.2.2 bt436.1 bt436.2.1)))))))) = some true := by first | (rw [if_neg (show ¬ (false = true) by decide)] at H; exact H) | rfl
  clear H
  have H := H1
  clear H1
  replace H := ob H
  obtain ⟨⟨t429, t430, t431, t432, t433⟩, A40, H⟩ := H
  replace H : ((impl_CellModulo.f t429 t430 t431 t432 t433).bind fun bt436 => ((spec_CellModulo.f t429 t430 t431 t432 t433).bind fun bt440 => ((spec_DrawDoesTile.f k l0).bind fun bt444 => ((impl_DoesTile.f k bt444.1 bt444.2.1 bt444.2.2.1 bt444.2.2.2).bind fun bt451 => ((spec_DoesTile.f k bt444.1 bt444.2.1 bt444.2.2.1 bt444.2.2.2).bind fun bt453 => (if bt436.2.2 = bt440.2.2 then (if (!(bt436.1 == bt440.1) || (!(bt436.2.1 == bt440.2.1))) = true then (laws_FnModulo.j0 k bt436.2.2 true t429 t430 t431 t432 t433 bt436.1 bt436.2.1) else (if bt451.2 = bt453.2 then (if (bt451.1 != bt453.1) = true then (laws_FnModulo.j0 k bt436.2.2 true t429 t430 t431 t432 t433 bt436.1 bt436.2.1) else ((impl_IsLattice.f t431 t432 t433).bind fun t455 => ((spec_IsLattice.f t431 t432 t433).bind fun t456 => (laws_FnModulo.j0 k bt436.2.2 (t455 != t456) t429 t430 t431 t432 t433 bt436.1 bt436.2.1)))) else (laws_FnModulo.j0 k bt436.2.2 true t429 t430 t431 t432 t433 bt436.1 bt436.2.1))) else (laws_FnModulo.j0 k bt436.2.2 true t429 t430 t431 t432 t433 bt436.1 bt436.2.1))))))) = some true := H
  have A4 := am A40
  clear A40
  replace H := ob H
  obtain ⟨⟨t436, t437, t438⟩, A50, H⟩ := H
  replace H : ((spec_CellModulo.f t429 t430 t431 t432 t433).bind fun bt440 => ((spec_DrawDoesTile.f k l0).bind fun bt444 => ((impl_DoesTile.f k bt444.1 bt444.2.1 bt444.2.2.1 bt444.2.2.2).bind fun bt451 => ((spec_DoesTile.f k bt444.1 bt444.2.1 bt444.2.2.1 bt444.2.2.2).bind fun bt453 => (if t438 = bt440.2.2 then (if (!(t436 == bt440.1) || (!(t437 == bt440.2.1))) = true then (laws_FnModulo.j0 k t438 true t429 t430 t431 t432 t433 t436 t437) else (if bt451.2 = bt453.2 then (if (bt451.1 != bt453.1) = true then (laws_FnModulo.j0 k t438 true t429 t430 t431 t432 t433 t436 t437) else ((impl_IsLattice.f t431 t432 t433).bind fun t455 => ((spec_IsLattice.f t431 t432 t433).bind fun t456 => (laws_FnModulo.j0 k t438 (t455 != t456) t429 t430 t431 t432 t433 t436 t437)))) else (laws_FnModulo.j0 k t438 true t429 t430 t431 t432 t433 t436 t437))) else (laws_FnModulo.j0 k t438 true t429 t430 t431 t432 t433 t436 t437)))))) = some true := H
  have A5 := am A50
  clear A50
  replace H := ob H
  obtain ⟨⟨t440, t441, t442⟩, A60, H⟩ := H
  replace H : ((spec_DrawDoesTile.f k l0).bind fun bt444 => ((impl_DoesTile.f k bt444.1 bt444.2.1 bt444.2.2.1 bt444.2.2.2).bind fun bt451 => ((spec_DoesTile.f k bt444.1 bt444.2.1 bt444.2.2.1 bt444.2.2.2).bind fun bt453 => (if t438 = t442 then (if (!(t436 == t440) || (!(t437 == t441))) = true then (laws_FnModulo.j0 k t438 true t429 t430 t431 t432 t433 t436 t437) else (if bt451.2 = bt453.2 then (if (bt451.1 != bt453.1) = true then (laws_FnModulo.j0 k t438 true t429 t430 t431 t432 t433 t436 t437) else ((impl_IsLattice.f t431 t432 t433).bind fun t455 => ((spec_IsLattice.f t431 t432 t433).bind fun t456 => (laws_FnModulo.j0 k t438 (t455 != t456) t429 t430 t431 t432 t433 t436 t437)))) else (laws_FnModulo.j0 k t438 true t429 t430 t431 t432 t433 t436 t437))) else (laws_FnModulo.j0 k t438 true t429 t430 t431 t432 t433 t436 t437))))) = some true := H
  have A6 := am A60
  clear A60
  replace H := ob H
  obtain ⟨⟨t444, t447, t448, t449⟩, A70, H⟩ := H
  replace H : ((impl_DoesTile.f k t444 t447 t448 t449).bind fun bt451 => ((spec_DoesTile.f k t444 t447 t448 t449).bind fun bt453 => (if t438 = t442 then (if (!(t436 == t440) || (!(t437 == t441))) = true then (laws_FnModulo.j0 k t438 true t429 t430 t431 t432 t433 t436 t437) else (if bt451.2 = bt453.2 then (if (bt451.1 != bt453.1) = true then (laws_FnModulo.j0 k t438 true t429 t430 t431 t432 t433 t436 t437) else ((impl_IsLattice.f t431 t432 t433).bind fun t455 => ((spec_IsLattice.f t431 t432 t433).bind fun t456 => (laws_FnModulo.j0 k t438 (t455 != t456) t429 t430 t431 t432 t433 t436 t437)))) else (laws_FnModulo.j0 k t438 true t429 t430 t431 t432 t433 t436 t437))) else (laws_FnModulo.j0 k t438 true t429 t430 t431 t432 t433 t436 t437)))) = some true := H
  have A7 := am A70
  clear A70
  replace H := ob H
  obtain ⟨⟨t451, t452⟩, A80, H⟩ := H
  replace H : ((spec_DoesTile.f k t444 t447 t448 t449).bind fun bt453 => (if t438 = t442 then (if (!(t436 == t440) || (!(t437 == t441))) = true then (laws_FnModulo.j0 k t438 true t429 t430 t431 t432 t433 t436 t437) else (if t452 = bt453.2 then (if (t451 != bt453.1) = true then (laws_FnModulo.j0 k t438 true t429 t430 t431 t432 t433 t436 t437) else ((impl_IsLattice.f t431 t432 t433).bind fun t455 => ((spec_IsLattice.f t431 t432 t433).bind fun t456 => (laws_FnModulo.j0 k t438 (t455 != t456) t429 t430 t431 t432 t433 t436 t437)))) else (laws_FnModulo.j0 k t438 true t429 t430 t431 t432 t433 t436 t437))) else (laws_FnModulo.j0 k t438 true t429 t430 t431 t432 t433 t436 t437))) = some true := H
  have A8 := am A80
  clear A80
  replace H := ob H
  obtain ⟨⟨t453, t454⟩, A90, H⟩ := H
  replace H : (if t438 = t442 then (if (!(t436 == t440) || (!(t437 == t441))) = true then (laws_FnModulo.j0 k t438 true t429 t430 t431 t432 t433 t436 t437) else (if t452 = t454 then (if (t451 != t453) = true then (laws_FnModulo.j0 k t438 true t429 t430 t431 t432 t433 t436 t437) else ((impl_IsLattice.f t431 t432 t433).bind fun t455 => ((spec_IsLattice.f t431 t432 t433).bind fun t456 => (laws_FnModulo.j0 k t438 (t455 != t456) t429 t430 t431 t432 t433 t436 t437)))) else (laws_FnModulo.j0 k t438 true t429 t430 t431 t432 t433 t436 t437))) else (laws_FnModulo.j0 k t438 true t429 t430 t431 t432 t433 t436 t437)) = some true := H
  have A9 := am A90
  clear A90
  have HC10 := am H
  clear H
  go_enter Try.func4, Try.ntmps4
  go_upto_region 9 with (first | ((with_reducible refine gate_callee (f := 12) rfl ?_); refine goesL_ (some 19) rfl rfl Try.func12 (by kernel_rfl) rfl #[.slice A0 l0.length c0] rfl (by (try simp only [List.map_toArray, List.map_cons, List.map_nil]); first | done | rfl | (simp only [List.length_drop, List.length_take]; rfl)) ?_; (with_reducible refine (laws_big.calls _ _ l0 false _ ?side1 ?side2 A2.out).mono ?_); (case side1 => repeat (first | exact HR0.out | (with_reducible refine Kd.C_alloc ?_ _) | (with_reducible refine Kd.C_drewN ?_ _) | (with_reducible refine Kd.C_drew ?_))); (case side2 => exact HC0.out); rintro e w' ⟨rfl, ⟨nd, rfl⟩⟩; refine ⟨_, rfl, ?_⟩) | ((with_reducible refine gate_callee (f := 13) rfl ?_); refine goesL_ (some 22) rfl rfl Try.func13 (by kernel_rfl) rfl #[.slice A0 l0.length c0] rfl (by (try simp only [List.map_toArray, List.map_cons, List.map_nil]); first | done | rfl | (simp only [List.length_drop, List.length_take]; rfl)) ?_; (with_reducible refine (spec_DrawCellModulo.calls _ _ l0 t429 t430 t431 t432 t433 _ ?side1 ?side2 A4.out).mono ?_); (case side1 => repeat (first | exact HR0.out | (with_reducible refine Kd.C_alloc ?_ _) | (with_reducible refine Kd.C_drewN ?_ _) | (with_reducible refine Kd.C_drew ?_))); (case side2 => exact HC0.out); rintro e w11 ⟨rfl, hb⟩; refine ⟨_, rfl, ?_⟩; have n0_ := am (b6 (by repeat (first | (with_reducible first | exact HB.out | apply b1 | apply b2 | apply b3) | exact HB.out)) hb); clear HB; have HB := n0_; clear n0_; (try clear hb); (try clear hb2); (try clear hk); (try clear hi)) | ((with_reducible refine gate_dst (N := 3) rfl ?_); refine box_event ?hg (N := 3) ?hd (cs := #[.int .i64 0, .int .i64 0]) (t := 37) ?hr ?_; (case hd => rfl); (case hg => rfl); (case hr => first | (go_simp; done) | (go_simp; rfl)); intro gb434 hg w12 hbox hb; have n0_ := am (b6 (by repeat (first | (with_reducible first | exact HB.out | apply b1 | apply b2 | apply b3) | exact HB.out)) hb); have n1_ := am (hbox); have n2_ := am ((by rw [hg]; exact (b5 (by repeat (first | (with_reducible first | exact HB.out | apply b1 | apply b2 | apply b3) | exact HB.out))) : w.heap.size ≤ gb434)); have n3_ := n2_; clear HB; have HB := n0_; have BK434 := n1_; have GW434 := n2_; have GE434 := n3_; clear n0_ n1_ n2_ n3_; clear hb hbox hg) | ((with_reducible refine gate_dst (N := 4) rfl ?_); refine box_event ?hg (N := 4) ?hd (cs := #[.int .i64 0, .int .i64 0, .int .i64 0]) (t := 30) ?hr ?_; (case hd => rfl); (case hg => rfl); (case hr => first | (go_simp; done) | (go_simp; rfl)); intro gb435 hg w13 hbox hb; have n0_ := am (k4 (g := gb434) (o := .cells #[.int .i64 0, .int .i64 0] 37 (0, 0)) (by (with_reducible repeat (first | refine k2 ?_ _ | refine k3 ?_ | refine k1 ?_ _)); exact BK434.out) hb); have n1_ := am (b6 (by repeat (first | (with_reducible first | exact HB.out | apply b1 | apply b2 | apply b3 | refine b4 ?_ GE434.out) | exact HB.out)) hb); have n2_ := am (hbox); have n3_ := am ((by rw [hg]; exact (b5 (by repeat (first | (with_reducible first | exact HB.out | apply b1 | apply b2 | apply b3 | refine b4 ?_ GE434.out) | exact HB.out))) : w.heap.size ≤ gb435)); have n4_ := n3_; have n5_ := am ((by rw [hg]; exact nl (k5 (g := gb434) (o := .cells #[.int .i64 0, .int .i64 0] 37 (0, 0)) (by (with_reducible repeat (first | refine k2 ?_ _ | refine k3 ?_ | refine k1 ?_ _)); exact BK434.out)) : gb434 ≠ gb435)); have n6_ := am ((by rw [hg]; exact ng (k5 (g := gb434) (o := .cells #[.int .i64 0, .int .i64 0] 37 (0, 0)) (by (with_reducible repeat (first | refine k2 ?_ _ | refine k3 ?_ | refine k1 ?_ _)); exact BK434.out)) : gb435 ≠ gb434)); clear BK434; clear HB; have BK434 := n0_; have HB := n1_; have BK435 := n2_; have GW435 := n3_; have GE435 := n4_; have NB434_435 := n5_; have NB435_434 := n6_; clear n0_ n1_ n2_ n3_ n4_ n5_ n6_; clear hb hbox hg; have hnb14 := NB434_435.out; have hnc14 := NB435_434.out; have hcz15_0 : w13.cell? ⟨gb434, 0, none⟩ = some (.int .i64 0) := (kc BK434.out 0).trans rfl; have hcz15_1 : w13.cell? ⟨gb434, 1, none⟩ = some (.int .i64 0) := (kc BK434.out 1).trans rfl; have hfz15_0 := kf BK434.out 0; have hfz15_1 := kf BK434.out 1; have hcz16_0 : w13.cell? ⟨gb435, 0, none⟩ = some (.int .i64 0) := (kc BK435.out 0).trans rfl; have hcz16_1 : w13.cell? ⟨gb435, 1, none⟩ = some (.int .i64 0) := (kc BK435.out 1).trans rfl; have hcz16_2 : w13.cell? ⟨gb435, 2, none⟩ = some (.int .i64 0) := (kc BK435.out 2).trans rfl; have hfz16_0 := kf BK435.out 0; have hfz16_1 := kf BK435.out 1; have hfz16_2 := kf BK435.out 2) | ((with_reducible refine gate_callee (f := 14) rfl ?_); refine goesL_ (some 28) rfl rfl Try.func14 (by kernel_rfl) rfl #[.agg #[.int .i64 t429, .int .i64 t430], .agg #[.int .i64 t431, .int .i64 t432, .int .i64 t433]] rfl (by (try simp only [List.map_toArray, List.map_cons, List.map_nil]); first | done | rfl | (simp only [List.length_drop, List.length_take]; rfl)) ?_; (with_reducible refine (impl_CellModulo.calls t429 t430 t431 t432 t433 t436 t437 t438 _ A5.out).mono ?_); rintro e w17 ⟨rfl, hb⟩; refine ⟨_, rfl, ?_⟩; have n0_ := am (k4 (g := gb434) (o := .cells #[.int .i64 t429, .int .i64 t430] 37 (0, 0)) (by (with_reducible repeat (first | refine k2 ?_ _ | refine k3 ?_ | refine k1 ?_ _)); refine blk_far ?_ NB434_435.out _; (with_reducible repeat (first | refine k2 ?_ _ | refine k3 ?_ | refine k1 ?_ _)); refine blk_far ?_ NB434_435.out _; (with_reducible repeat (first | refine k2 ?_ _ | refine k3 ?_ | refine k1 ?_ _)); refine blk_far ?_ NB434_435.out _; (with_reducible repeat (first | refine k2 ?_ _ | refine k3 ?_ | refine k1 ?_ _)); refine blk_put (cs := #[.int .i64 t429, .int .i64 0]) ?_ 1 _ rfl; (with_reducible repeat (first | refine k2 ?_ _ | refine k3 ?_ | refine k1 ?_ _)); refine blk_put (cs := #[.int .i64 0, .int .i64 0]) ?_ 0 _ rfl; (with_reducible repeat (first | refine k2 ?_ _ | refine k3 ?_ | refine k1 ?_ _)); exact BK434.out) hb); have n1_ := am (k4 (g := gb435) (o := .cells #[.int .i64 t431, .int .i64 t432, .int .i64 t433] 30 (0, 0)) (by (with_reducible repeat (first | refine k2 ?_ _ | refine k3 ?_ | refine k1 ?_ _)); refine blk_put (cs := #[.int .i64 t431, .int .i64 t432, .int .i64 0]) ?_ 2 _ rfl; (with_reducible repeat (first | refine k2 ?_ _ | refine k3 ?_ | refine k1 ?_ _)); refine blk_put (cs := #[.int .i64 t431, .int .i64 0, .int .i64 0]) ?_ 1 _ rfl; (with_reducible repeat (first | refine k2 ?_ _ | refine k3 ?_ | refine k1 ?_ _)); refine blk_put (cs := #[.int .i64 0, .int .i64 0, .int .i64 0]) ?_ 0 _ rfl; (with_reducible repeat (first | refine k2 ?_ _ | refine k3 ?_ | refine k1 ?_ _)); refine blk_far ?_ NB435_434.out _; (with_reducible repeat (first | refine k2 ?_ _ | refine k3 ?_ | refine k1 ?_ _)); refine blk_far ?_ NB435_434.out _; (with_reducible repeat (first | refine k2 ?_ _ | refine k3 ?_ | refine k1 ?_ _)); exact BK435.out) hb); have n2_ := am (b6 (by repeat (first | (with_reducible first | exact HB.out | apply b1 | apply b2 | apply b3 | refine b4 ?_ GE434.out | refine b4 ?_ GE435.out) | exact HB.out)) hb); clear BK434; clear BK435; clear HB; have BK434 := n0_; have BK435 := n1_; have HB := n2_; clear n0_ n1_ n2_; (try clear hb); (try clear hb2); (try clear hk); (try clear hi)) | ((with_reducible refine gate_dst (N := 5) rfl ?_); refine box_event ?hg (N := 5) ?hd (cs := #[.int .i64 0, .int .i64 0]) (t := 37) ?hr ?_; (case hd => rfl); (case hg => rfl); (case hr => first | (go_simp; done) | (go_simp; rfl)); intro gb439 hg w18 hbox hb; have n0_ := am (k4 (g := gb434) (o := .cells #[.int .i64 t429, .int .i64 t430] 37 (0, 0)) (by (with_reducible repeat (first | refine k2 ?_ _ | refine k3 ?_ | refine k1 ?_ _)); exact BK434.out) hb); have n1_ := am (k4 (g := gb435) (o := .cells #[.int .i64 t431, .int .i64 t432, .int .i64 t433] 30 (0, 0)) (by (with_reducible repeat (first | refine k2 ?_ _ | refine k3 ?_ | refine k1 ?_ _)); exact BK435.out) hb); have n2_ := am (b6 (by repeat (first | (with_reducible first | exact HB.out | apply b1 | apply b2 | apply b3 | refine b4 ?_ GE434.out | refine b4 ?_ GE435.out) | exact HB.out)) hb); have n3_ := am (hbox); have n4_ := am ((by rw [hg]; exact (b5 (by repeat (first | (with_reducible first | exact HB.out | apply b1 | apply b2 | apply b3 | refine b4 ?_ GE434.out | refine b4 ?_ GE435.out) | exact HB.out))) : w.heap.size ≤ gb439)); have n5_ := n4_; have n6_ := am ((by rw [hg]; exact nl (k5 (g := gb434) (o := .cells #[.int .i64 t429, .int .i64 t430] 37 (0, 0)) (by (with_reducible repeat (first | refine k2 ?_ _ | refine k3 ?_ | refine k1 ?_ _)); exact BK434.out)) : gb434 ≠ gb439)); have n7_ := am ((by rw [hg]; exact ng (k5 (g := gb434) (o := .cells #[.int .i64 t429, .int .i64 t430] 37 (0, 0)) (by (with_reducible repeat (first | refine k2 ?_ _ | refine k3 ?_ | refine k1 ?_ _)); exact BK434.out)) : gb439 ≠ gb434)); have n8_ := am ((by rw [hg]; exact nl (k5 (g := gb435) (o := .cells #[.int .i64 t431, .int .i64 t432, .int .i64 t433] 30 (0, 0)) (by (with_reducible repeat (first | refine k2 ?_ _ | refine k3 ?_ | refine k1 ?_ _)); exact BK435.out)) : gb435 ≠ gb439)); have n9_ := am ((by rw [hg]; exact ng (k5 (g := gb435) (o := .cells #[.int .i64 t431, .int .i64 t432, .int .i64 t433] 30 (0, 0)) (by (with_reducible repeat (first | refine k2 ?_ _ | refine k3 ?_ | refine k1 ?_ _)); exact BK435.out)) : gb439 ≠ gb435)); clear BK434; clear BK435; clear HB; have BK434 := n0_; have BK435 := n1_; have HB := n2_; have BK439 := n3_; have GW439 := n4_; have GE439 := n5_; have NB434_439 := n6_; have NB439_434 := n7_; have NB435_439 := n8_; have NB439_435 := n9_; clear n0_ n1_ n2_ n3_ n4_ n5_ n6_ n7_ n8_ n9_; clear hb hbox hg; have hnb19 := NB439_434.out; have hnc19 := NB434_439.out; have hnb20 := NB439_435.out; have hnc20 := NB435_439.out; have hcz21_0 : w18.cell? ⟨gb439, 0, none⟩ = some (.int .i64 0) := (kc BK439.out 0).trans rfl; have hcz21_1 : w18.cell? ⟨gb439, 1, none⟩ = some (.int .i64 0) := (kc BK439.out 1).trans rfl; have hfz21_0 := kf BK439.out 0; have hfz21_1 := kf BK439.out 1; have hcz22_0 : w18.cell? ⟨gb434, 0, none⟩ = some (.int .i64 t429) := (kc BK434.out 0).trans rfl; have hcz22_1 : w18.cell? ⟨gb434, 1, none⟩ = some (.int .i64 t430) := (kc BK434.out 1).trans rfl; have hfz22_0 := kf BK434.out 0; have hfz22_1 := kf BK434.out 1; have hcz23_0 : w18.cell? ⟨gb435, 0, none⟩ = some (.int .i64 t431) := (kc BK435.out 0).trans rfl; have hcz23_1 : w18.cell? ⟨gb435, 1, none⟩ = some (.int .i64 t432) := (kc BK435.out 1).trans rfl; have hcz23_2 : w18.cell? ⟨gb435, 2, none⟩ = some (.int .i64 t433) := (kc BK435.out 2).trans rfl; have hfz23_0 := kf BK435.out 0; have hfz23_1 := kf BK435.out 1; have hfz23_2 := kf BK435.out 2) | ((with_reducible refine gate_callee (f := 15) rfl ?_); refine goesL_ (some 34) rfl rfl Try.func15 (by kernel_rfl) rfl #[.agg #[.int .i64 t429, .int .i64 t430], .agg #[.int .i64 t431, .int .i64 t432, .int .i64 t433]] rfl (by (try simp only [List.map_toArray, List.map_cons, List.map_nil]); first | done | rfl | (simp only [List.length_drop, List.length_take]; rfl)) ?_; (with_reducible refine (spec_CellModulo.calls t429 t430 t431 t432 t433 t440 t441 t442 _ A6.out).mono ?_); rintro e w24 ⟨rfl, hb⟩; refine ⟨_, rfl, ?_⟩; have n0_ := am (k4 (g := gb434) (o := .cells #[.int .i64 t429, .int .i64 t430] 37 (0, 0)) (by (with_reducible repeat (first | refine k2 ?_ _ | refine k3 ?_ | refine k1 ?_ _)); refine blk_far ?_ NB434_439.out _; (with_reducible repeat (first | refine k2 ?_ _ | refine k3 ?_ | refine k1 ?_ _)); refine blk_far ?_ NB434_439.out _; (with_reducible repeat (first | refine k2 ?_ _ | refine k3 ?_ | refine k1 ?_ _)); exact BK434.out) hb); have n1_ := am (k4 (g := gb435) (o := .cells #[.int .i64 t431, .int .i64 t432, .int .i64 t433] 30 (0, 0)) (by (with_reducible repeat (first | refine k2 ?_ _ | refine k3 ?_ | refine k1 ?_ _)); refine blk_far ?_ NB435_439.out _; (with_reducible repeat (first | refine k2 ?_ _ | refine k3 ?_ | refine k1 ?_ _)); refine blk_far ?_ NB435_439.out _; (with_reducible repeat (first | refine k2 ?_ _ | refine k3 ?_ | refine k1 ?_ _)); exact BK435.out) hb); have n2_ := am (k4 (g := gb439) (o := .cells #[.int .i64 t436, .int .i64 t437] 37 (0, 0)) (by (with_reducible repeat (first | refine k2 ?_ _ | refine k3 ?_ | refine k1 ?_ _)); refine blk_put (cs := #[.int .i64 t436, .int .i64 0]) ?_ 1 _ rfl; (with_reducible repeat (first | refine k2 ?_ _ | refine k3 ?_ | refine k1 ?_ _)); refine blk_put (cs := #[.int .i64 0, .int .i64 0]) ?_ 0 _ rfl; (with_reducible repeat (first | refine k2 ?_ _ | refine k3 ?_ | refine k1 ?_ _)); exact BK439.out) hb); have n3_ := am (b6 (by repeat (first | (with_reducible first | exact HB.out | apply b1 | apply b2 | apply b3 | refine b4 ?_ GE434.out | refine b4 ?_ GE435.out | refine b4 ?_ GE439.out) | exact HB.out)) hb); clear BK434; clear BK435; clear BK439; clear HB; have BK434 := n0_; have BK435 := n1_; have BK439 := n2_; have HB := n3_; clear n0_ n1_ n2_ n3_; (try clear hb); (try clear hb2); (try clear hk); (try clear hi)) | ((with_reducible refine gate_dst (N := 7) rfl ?_); refine box_event ?hg (N := 7) ?hd (cs := #[.int .i64 0, .int .i64 0]) (t := 37) ?hr ?_; (case hd => rfl); (case hg => rfl); (case hr => first | (go_simp; done) | (go_simp; rfl)); intro gb443 hg w25 hbox hb; have n0_ := am (k4 (g := gb434) (o := .cells #[.int .i64 t429, .int .i64 t430] 37 (0, 0)) (by (with_reducible repeat (first | refine k2 ?_ _ | refine k3 ?_ | refine k1 ?_ _)); exact BK434.out) hb); have n1_ := am (k4 (g := gb435) (o := .cells #[.int .i64 t431, .int .i64 t432, .int .i64 t433] 30 (0, 0)) (by (with_reducible repeat (first | refine k2 ?_ _ | refine k3 ?_ | refine k1 ?_ _)); exact BK435.out) hb); have n2_ := am (k4 (g := gb439) (o := .cells #[.int .i64 t436, .int .i64 t437] 37 (0, 0)) (by (with_reducible repeat (first | refine k2 ?_ _ | refine k3 ?_ | refine k1 ?_ _)); exact BK439.out) hb); have n3_ := am (b6 (by repeat (first | (with_reducible first | exact HB.out | apply b1 | apply b2 | apply b3 | refine b4 ?_ GE434.out | refine b4 ?_ GE435.out | refine b4 ?_ GE439.out) | exact HB.out)) hb); have n4_ := am (hbox); have n5_ := am ((by rw [hg]; exact (b5 (by repeat (first | (with_reducible first | exact HB.out | apply b1 | apply b2 | apply b3 | refine b4 ?_ GE434.out | refine b4 ?_ GE435.out | refine b4 ?_ GE439.out) | exact HB.out))) : w.heap.size ≤ gb443)); have n6_ := n5_; have n7_ := am ((by rw [hg]; exact nl (k5 (g := gb434) (o := .cells #[.int .i64 t429, .int .i64 t430] 37 (0, 0)) (by (with_reducible repeat (first | refine k2 ?_ _ | refine k3 ?_ | refine k1 ?_ _)); exact BK434.out)) : gb434 ≠ gb443)); have n8_ := am ((by rw [hg]; exact ng (k5 (g := gb434) (o := .cells #[.int .i64 t429, .int .i64 t430] 37 (0, 0)) (by (with_reducible repeat (first | refine k2 ?_ _ | refine k3 ?_ | refine k1 ?_ _)); exact BK434.out)) : gb443 ≠ gb434)); have n9_ := am ((by rw [hg]; exact nl (k5 (g := gb435) (o := .cells #[.int .i64 t431, .int .i64 t432, .int .i64 t433] 30 (0, 0)) (by (with_reducible repeat (first | refine k2 ?_ _ | refine k3 ?_ | refine k1 ?_ _)); exact BK435.out)) : gb435 ≠ gb443)); have n10_ := am ((by rw [hg]; exact ng (k5 (g := gb435) (o := .cells #[.int .i64 t431, .int .i64 t432, .int .i64 t433] 30 (0, 0)) (by (with_reducible repeat (first | refine k2 ?_ _ | refine k3 ?_ | refine k1 ?_ _)); exact BK435.out)) : gb443 ≠ gb435)); have n11_ := am ((by rw [hg]; exact nl (k5 (g := gb439) (o := .cells #[.int .i64 t436, .int .i64 t437] 37 (0, 0)) (by (with_reducible repeat (first | refine k2 ?_ _ | refine k3 ?_ | refine k1 ?_ _)); exact BK439.out)) : gb439 ≠ gb443)); have n12_ := am ((by rw [hg]; exact ng (k5 (g := gb439) (o := .cells #[.int .i64 t436, .int .i64 t437] 37 (0, 0)) (by (with_reducible repeat (first | refine k2 ?_ _ | refine k3 ?_ | refine k1 ?_ _)); exact BK439.out)) : gb443 ≠ gb439)); clear BK434; clear BK435; clear BK439; clear HB; have BK434 := n0_; have BK435 := n1_; have BK439 := n2_; have HB := n3_; have BK443 := n4_; have GW443 := n5_; have GE443 := n6_; have NB434_443 := n7_; have NB443_434 := n8_; have NB435_443 := n9_; have NB443_435 := n10_; have NB439_443 := n11_; have NB443_439 := n12_; clear n0_ n1_ n2_ n3_ n4_ n5_ n6_ n7_ n8_ n9_ n10_ n11_ n12_; clear hb hbox hg; have hnb26 := NB443_434.out; have hnc26 := NB434_443.out; have hnb27 := NB443_435.out; have hnc27 := NB435_443.out; have hnb28 := NB443_439.out; have hnc28 := NB439_443.out; have hcz29_0 : w25.cell? ⟨gb443, 0, none⟩ = some (.int .i64 0) := (kc BK443.out 0).trans rfl; have hcz29_1 : w25.cell? ⟨gb443, 1, none⟩ = some (.int .i64 0) := (kc BK443.out 1).trans rfl; have hfz29_0 := kf BK443.out 0; have hfz29_1 := kf BK443.out 1) | ((with_reducible refine gate_callee (f := 16) rfl ?_); refine goesL_ (some 39) rfl rfl Try.func16 (by kernel_rfl) rfl #[.slice A0 l0.length c0] rfl (by (try simp only [List.map_toArray, List.map_cons, List.map_nil]); first | done | rfl | (simp only [List.length_drop, List.length_take]; rfl)) ?_; (with_reducible refine (spec_DrawDoesTile.calls k _ _ l0 t444 t447 t448 t449 _ ?side1 ?side2 A7.out).mono ?_); (case side1 => exact Kd.C_below HR0.out (by repeat (first | (with_reducible first | exact HB.out | apply b1 | apply b2 | apply b3 | refine b4 ?_ GE434.out | refine b4 ?_ GE435.out | refine b4 ?_ GE439.out | refine b4 ?_ GE443.out) | exact HB.out))); (case side2 => exact HC0.out); rintro e w30 ⟨v445, rfl, ho0, hb⟩; refine ⟨_, rfl, ?_⟩; have n0_ := am (Kd.R_lower (Kd.R_newB (Kd.R_newB (Kd.R_newB ho0 (g := gb434) (o := .cells #[.int .i64 t429, .int .i64 t430] 37 (0, 0)) (by (with_reducible repeat (first | refine k2 ?_ _ | refine k3 ?_ | refine k1 ?_ _)); refine blk_far ?_ NB434_443.out _; (with_reducible repeat (first | refine k2 ?_ _ | refine k3 ?_ | refine k1 ?_ _)); refine blk_far ?_ NB434_443.out _; (with_reducible repeat (first | refine k2 ?_ _ | refine k3 ?_ | refine k1 ?_ _)); exact BK434.out)) (g := gb439) (o := .cells #[.int .i64 t436, .int .i64 t437] 37 (0, 0)) (by (with_reducible repeat (first | refine k2 ?_ _ | refine k3 ?_ | refine k1 ?_ _)); refine blk_far ?_ NB439_443.out _; (with_reducible repeat (first | refine k2 ?_ _ | refine k3 ?_ | refine k1 ?_ _)); refine blk_far ?_ NB439_443.out _; (with_reducible repeat (first | refine k2 ?_ _ | refine k3 ?_ | refine k1 ?_ _)); exact BK439.out)) (g := gb443) (o := .cells #[.int .i64 t440, .int .i64 t441] 37 (0, 0)) (by (with_reducible repeat (first | refine k2 ?_ _ | refine k3 ?_ | refine k1 ?_ _)); refine blk_put (cs := #[.int .i64 t440, .int .i64 0]) ?_ 1 _ rfl; (with_reducible repeat (first | refine k2 ?_ _ | refine k3 ?_ | refine k1 ?_ _)); refine blk_put (cs := #[.int .i64 0, .int .i64 0]) ?_ 0 _ rfl; (with_reducible repeat (first | refine k2 ?_ _ | refine k3 ?_ | refine k1 ?_ _)); exact BK443.out)) (b5 (by repeat (first | (with_reducible first | exact HB.out | apply b1 | apply b2 | apply b3 | refine b4 ?_ GE434.out | refine b4 ?_ GE435.out | refine b4 ?_ GE439.out | refine b4 ?_ GE443.out) | exact HB.out)))); have n1_ := am (k4 (g := gb434) (o := .cells #[.int .i64 t429, .int .i64 t430] 37 (0, 0)) (by (with_reducible repeat (first | refine k2 ?_ _ | refine k3 ?_ | refine k1 ?_ _)); refine blk_far ?_ NB434_443.out _; (with_reducible repeat (first | refine k2 ?_ _ | refine k3 ?_ | refine k1 ?_ _)); refine blk_far ?_ NB434_443.out _; (with_reducible repeat (first | refine k2 ?_ _ | refine k3 ?_ | refine k1 ?_ _)); exact BK434.out) hb); have n2_ := am (k4 (g := gb435) (o := .cells #[.int .i64 t431, .int .i64 t432, .int .i64 t433] 30 (0, 0)) (by (with_reducible repeat (first | refine k2 ?_ _ | refine k3 ?_ | refine k1 ?_ _)); refine blk_far ?_ NB435_443.out _; (with_reducible repeat (first | refine k2 ?_ _ | refine k3 ?_ | refine k1 ?_ _)); refine blk_far ?_ NB435_443.out _; (with_reducible repeat (first | refine k2 ?_ _ | refine k3 ?_ | refine k1 ?_ _)); exact BK435.out) hb); have n3_ := am (k4 (g := gb439) (o := .cells #[.int .i64 t436, .int .i64 t437] 37 (0, 0)) (by (with_reducible repeat (first | refine k2 ?_ _ | refine k3 ?_ | refine k1 ?_ _)); refine blk_far ?_ NB439_443.out _; (with_reducible repeat (first | refine k2 ?_ _ | refine k3 ?_ | refine k1 ?_ _)); refine blk_far ?_ NB439_443.out _; (with_reducible repeat (first | refine k2 ?_ _ | refine k3 ?_ | refine k1 ?_ _)); exact BK439.out) hb); have n4_ := am (k4 (g := gb443) (o := .cells #[.int .i64 t440, .int .i64 t441] 37 (0, 0)) (by (with_reducible repeat (first | refine k2 ?_ _ | refine k3 ?_ | refine k1 ?_ _)); refine blk_put (cs := #[.int .i64 t440, .int .i64 0]) ?_ 1 _ rfl; (with_reducible repeat (first | refine k2 ?_ _ | refine k3 ?_ | refine k1 ?_ _)); refine blk_put (cs := #[.int .i64 0, .int .i64 0]) ?_ 0 _ rfl; (with_reducible repeat (first | refine k2 ?_ _ | refine k3 ?_ | refine k1 ?_ _)); exact BK443.out) hb); have n5_ := am (b6 (by repeat (first | (with_reducible first | exact HB.out | apply b1 | apply b2 | apply b3 | refine b4 ?_ GE434.out | refine b4 ?_ GE435.out | refine b4 ?_ GE439.out | refine b4 ?_ GE443.out) | exact HB.out)) hb); clear BK434; clear BK435; clear BK439; clear BK443; clear HB; have HO446 := n0_; have BK434 := n1_; have BK435 := n2_; have BK439 := n3_; have BK443 := n4_; have HB := n5_; clear n0_ n1_ n2_ n3_ n4_ n5_; (try clear hb); (try clear hb2); (try clear hk); (try clear hi); (try clear ho0)) | ((with_reducible refine gate_dst (N := 10) rfl ?_); refine box_event ?hg (N := 10) ?hd (cs := #[.int .i64 0, .int .i64 0, .int .i64 0]) (t := 30) ?hr ?_; (case hd => rfl); (case hg => rfl); (case hr => first | (go_simp; done) | (go_simp; rfl)); intro gb450 hg w31 hbox hb; have n0_ := am (Kd.R_below (by (with_reducible repeat (first | apply Kd.R_alloc | apply Kd.R_drewN | apply Kd.R_drew)); exact HO446.out) hb); have n1_ := am (k4 (g := gb434) (o := .cells #[.int .i64 t429, .int .i64 t430] 37 (0, 0)) (by (with_reducible repeat (first | refine k2 ?_ _ | refine k3 ?_ | refine k1 ?_ _)); exact BK434.out) hb); have n2_ := am (k4 (g := gb435) (o := .cells #[.int .i64 t431, .int .i64 t432, .int .i64 t433] 30 (0, 0)) (by (with_reducible repeat (first | refine k2 ?_ _ | refine k3 ?_ | refine k1 ?_ _)); exact BK435.out) hb); have n3_ := am (k4 (g := gb439) (o := .cells #[.int .i64 t436, .int .i64 t437] 37 (0, 0)) (by (with_reducible repeat (first | refine k2 ?_ _ | refine k3 ?_ | refine k1 ?_ _)); exact BK439.out) hb); have n4_ := am (k4 (g := gb443) (o := .cells #[.int .i64 t440, .int .i64 t441] 37 (0, 0)) (by (with_reducible repeat (first | refine k2 ?_ _ | refine k3 ?_ | refine k1 ?_ _)); exact BK443.out) hb); have n5_ := am (b6 (by repeat (first | (with_reducible first | exact HB.out | apply b1 | apply b2 | apply b3 | refine b4 ?_ GE434.out | refine b4 ?_ GE435.out | refine b4 ?_ GE439.out | refine b4 ?_ GE443.out) | exact HB.out)) hb); have n6_ := am (hbox); have n7_ := am ((by rw [hg]; exact (b5 (by repeat (first | (with_reducible first | exact HB.out | apply b1 | apply b2 | apply b3 | refine b4 ?_ GE434.out | refine b4 ?_ GE435.out | refine b4 ?_ GE439.out | refine b4 ?_ GE443.out) | exact HB.out))) : w.heap.size ≤ gb450)); have n8_ := n7_; have n9_ := am ((by rw [hg]; exact nl (k5 (g := gb434) (o := .cells #[.int .i64 t429, .int .i64 t430] 37 (0, 0)) (by (with_reducible repeat (first | refine k2 ?_ _ | refine k3 ?_ | refine k1 ?_ _)); exact BK434.out)) : gb434 ≠ gb450)); have n10_ := am ((by rw [hg]; exact ng (k5 (g := gb434) (o := .cells #[.int .i64 t429, .int .i64 t430] 37 (0, 0)) (by (with_reducible repeat (first | refine k2 ?_ _ | refine k3 ?_ | refine k1 ?_ _)); exact BK434.out)) : gb450 ≠ gb434)); have n11_ := am ((by rw [hg]; exact nl (k5 (g := gb435) (o := .cells #[.int .i64 t431, .int .i64 t432, .int .i64 t433] 30 (0, 0)) (by (with_reducible repeat (first | refine k2 ?_ _ | refine k3 ?_ | refine k1 ?_ _)); exact BK435.out)) : gb435 ≠ gb450)); have n12_ := am ((by rw [hg]; exact ng (k5 (g := gb435) (o := .cells #[.int .i64 t431, .int .i64 t432, .int .i64 t433] 30 (0, 0)) (by (with_reducible repeat (first | refine k2 ?_ _ | refine k3 ?_ | refine k1 ?_ _)); exact BK435.out)) : gb450 ≠ gb435)); have n13_ := am ((by rw [hg]; exact nl (k5 (g := gb439) (o := .cells #[.int .i64 t436, .int .i64 t437] 37 (0, 0)) (by (with_reducible repeat (first | refine k2 ?_ _ | refine k3 ?_ | refine k1 ?_ _)); exact BK439.out)) : gb439 ≠ gb450)); have n14_ := am ((by rw [hg]; exact ng (k5 (g := gb439) (o := .cells #[.int .i64 t436, .int .i64 t437] 37 (0, 0)) (by (with_reducible repeat (first | refine k2 ?_ _ | refine k3 ?_ | refine k1 ?_ _)); exact BK439.out)) : gb450 ≠ gb439)); have n15_ := am ((by rw [hg]; exact nl (k5 (g := gb443) (o := .cells #[.int .i64 t440, .int .i64 t441] 37 (0, 0)) (by (with_reducible repeat (first | refine k2 ?_ _ | refine k3 ?_ | refine k1 ?_ _)); exact BK443.out)) : gb443 ≠ gb450)); have n16_ := am ((by rw [hg]; exact ng (k5 (g := gb443) (o := .cells #[.int .i64 t440, .int .i64 t441] 37 (0, 0)) (by (with_reducible repeat (first | refine k2 ?_ _ | refine k3 ?_ | refine k1 ?_ _)); exact BK443.out)) : gb450 ≠ gb443)); clear HO446; clear BK434; clear BK435; clear BK439; clear BK443; clear HB; have HO446 := n0_; have BK434 := n1_; have BK435 := n2_; have BK439 := n3_; have BK443 := n4_; have HB := n5_; have BK450 := n6_; have GW450 := n7_; have GE450 := n8_; have NB434_450 := n9_; have NB450_434 := n10_; have NB435_450 := n11_; have NB450_435 := n12_; have NB439_450 := n13_; have NB450_439 := n14_; have NB443_450 := n15_; have NB450_443 := n16_; clear n0_ n1_ n2_ n3_ n4_ n5_ n6_ n7_ n8_ n9_ n10_ n11_ n12_ n13_ n14_ n15_ n16_; clear hb hbox hg; have hnb32 := NB450_434.out; have hnc32 := NB434_450.out; have hnb33 := NB450_435.out; have hnc33 := NB435_450.out; have hnb34 := NB450_439.out; have hnc34 := NB439_450.out; have hnb35 := NB450_443.out; have hnc35 := NB443_450.out; have hcz36_0 : w31.cell? ⟨gb450, 0, none⟩ = some (.int .i64 0) := (kc BK450.out 0).trans rfl; have hcz36_1 : w31.cell? ⟨gb450, 1, none⟩ = some (.int .i64 0) := (kc BK450.out 1).trans rfl; have hcz36_2 : w31.cell? ⟨gb450, 2, none⟩ = some (.int .i64 0) := (kc BK450.out 2).trans rfl; have hfz36_0 := kf BK450.out 0; have hfz36_1 := kf BK450.out 1; have hfz36_2 := kf BK450.out 2; obtain ⟨Ao37, co37, eo37⟩ := Kd.R_slice HO446.out; subst eo37) | ((with_reducible refine gate_callee (f := 17) rfl ?_); refine goesL_ (some 45) rfl rfl Try.func17 (by kernel_rfl) rfl #[.slice Ao37 t444.length co37, .agg #[.int .i64 t447, .int .i64 t448, .int .i64 t449]] rfl (by (try simp only [List.map_toArray, List.map_cons, List.map_nil]); first | done | rfl | (simp only [List.length_drop, List.length_take]; rfl)) ?_; (with_reducible refine (impl_DoesTile.calls k _ _ t444 t447 t448 t449 t451 t452 _ ?side1 ?side2 A8.out).mono ?_); (case side1 => refine (Kd.R_reads' (e := 37) (base := w.heap.size) (ok := fun k_ => (((True ∧ k_ ≠ gb434) ∧ k_ ≠ gb439) ∧ k_ ≠ gb443)) (n := t444.length) (c := co37) ?_).2.2; exact (by (with_reducible repeat (first | apply Kd.R_alloc | apply Kd.R_drewN | apply Kd.R_drew)); exact (Kd.R_mono (Kd.R_far (p := ⟨gb450, 2, none⟩) (Kd.R_far (p := ⟨gb450, 1, none⟩) (Kd.R_far (p := ⟨gb450, 0, none⟩) (Kd.R_types HO446.out BK450.out (by decide)) (fun _ hk => hk.2) (.int .i64 t447)) (fun _ hk => hk.2) (.int .i64 t448)) (fun _ hk => hk.2) (.int .i64 t449)) (fun _ h_ => h_.1)))); (case side2 => exact (Kd.R_reads' HO446.out).2.1); rintro e w38 ⟨rfl, hb⟩; refine ⟨_, rfl, ?_⟩; have n0_ := am (Kd.R_below (by (with_reducible repeat (first | apply Kd.R_alloc | apply Kd.R_drewN | apply Kd.R_drew)); exact (Kd.R_mono (Kd.R_far (p := ⟨gb450, 2, none⟩) (Kd.R_far (p := ⟨gb450, 1, none⟩) (Kd.R_far (p := ⟨gb450, 0, none⟩) (Kd.R_types HO446.out BK450.out (by decide)) (fun _ hk => hk.2) (.int .i64 t447)) (fun _ hk => hk.2) (.int .i64 t448)) (fun _ hk => hk.2) (.int .i64 t449)) (fun _ h_ => h_.1))) hb); have n1_ := am (k4 (g := gb434) (o := .cells #[.int .i64 t429, .int .i64 t430] 37 (0, 0)) (by (with_reducible repeat (first | refine k2 ?_ _ | refine k3 ?_ | refine k1 ?_ _)); refine blk_far ?_ NB434_450.out _; (with_reducible repeat (first | refine k2 ?_ _ | refine k3 ?_ | refine k1 ?_ _)); refine blk_far ?_ NB434_450.out _; (with_reducible repeat (first | refine k2 ?_ _ | refine k3 ?_ | refine k1 ?_ _)); refine blk_far ?_ NB434_450.out _; (with_reducible repeat (first | refine k2 ?_ _ | refine k3 ?_ | refine k1 ?_ _)); exact BK434.out) hb); have n2_ := am (k4 (g := gb435) (o := .cells #[.int .i64 t431, .int .i64 t432, .int .i64 t433] 30 (0, 0)) (by (with_reducible repeat (first | refine k2 ?_ _ | refine k3 ?_ | refine k1 ?_ _)); refine blk_far ?_ NB435_450.out _; (with_reducible repeat (first | refine k2 ?_ _ | refine k3 ?_ | refine k1 ?_ _)); refine blk_far ?_ NB435_450.out _; (with_reducible repeat (first | refine k2 ?_ _ | refine k3 ?_ | refine k1 ?_ _)); refine blk_far ?_ NB435_450.out _; (with_reducible repeat (first | refine k2 ?_ _ | refine k3 ?_ | refine k1 ?_ _)); exact BK435.out) hb); have n3_ := am (k4 (g := gb439) (o := .cells #[.int .i64 t436, .int .i64 t437] 37 (0, 0)) (by (with_reducible repeat (first | refine k2 ?_ _ | refine k3 ?_ | refine k1 ?_ _)); refine blk_far ?_ NB439_450.out _; (with_reducible repeat (first | refine k2 ?_ _ | refine k3 ?_ | refine k1 ?_ _)); refine blk_far ?_ NB439_450.out _; (with_reducible repeat (first | refine k2 ?_ _ | refine k3 ?_ | refine k1 ?_ _)); refine blk_far ?_ NB439_450.out _; (with_reducible repeat (first | refine k2 ?_ _ | refine k3 ?_ | refine k1 ?_ _)); exact BK439.out) hb); have n4_ := am (k4 (g := gb443) (o := .cells #[.int .i64 t440, .int .i64 t441] 37 (0, 0)) (by (with_reducible repeat (first | refine k2 ?_ _ | refine k3 ?_ | refine k1 ?_ _)); refine blk_far ?_ NB443_450.out _; (with_reducible repeat (first | refine k2 ?_ _ | refine k3 ?_ | refine k1 ?_ _)); refine blk_far ?_ NB443_450.out _; (with_reducible repeat (first | refine k2 ?_ _ | refine k3 ?_ | refine k1 ?_ _)); refine blk_far ?_ NB443_450.out _; (with_reducible repeat (first | refine k2 ?_ _ | refine k3 ?_ | refine k1 ?_ _)); exact BK443.out) hb); have n5_ := am (k4 (g := gb450) (o := .cells #[.int .i64 t447, .int .i64 t448, .int .i64 t449] 30 (0, 0)) (by (with_reducible repeat (first | refine k2 ?_ _ | refine k3 ?_ | refine k1 ?_ _)); refine blk_put (cs := #[.int .i64 t447, .int .i64 t448, .int .i64 0]) ?_ 2 _ rfl; (with_reducible repeat (first | refine k2 ?_ _ | refine k3 ?_ | refine k1 ?_ _)); refine blk_put (cs := #[.int .i64 t447, .int .i64 0, .int .i64 0]) ?_ 1 _ rfl; (with_reducible repeat (first | refine k2 ?_ _ | refine k3 ?_ | refine k1 ?_ _)); refine blk_put (cs := #[.int .i64 0, .int .i64 0, .int .i64 0]) ?_ 0 _ rfl; (with_reducible repeat (first | refine k2 ?_ _ | refine k3 ?_ | refine k1 ?_ _)); exact BK450.out) hb); have n6_ := am (b6 (by repeat (first | (with_reducible first | exact HB.out | apply b1 | apply b2 | apply b3 | refine b4 ?_ GE434.out | refine b4 ?_ GE435.out | refine b4 ?_ GE439.out | refine b4 ?_ GE443.out | refine b4 ?_ GE450.out) | exact HB.out)) hb); clear HO446; clear BK434; clear BK435; clear BK439; clear BK443; clear BK450; clear HB; have HO446 := n0_; have BK434 := n1_; have BK435 := n2_; have BK439 := n3_; have BK443 := n4_; have BK450 := n5_; have HB := n6_; clear n0_ n1_ n2_ n3_ n4_ n5_ n6_; (try clear hb); (try clear hb2); (try clear hk); (try clear hi); have hcz39_0 : w38.cell? ⟨gb450, 0, none⟩ = some (.int .i64 t447) := (kc BK450.out 0).trans rfl; have hcz39_1 : w38.cell? ⟨gb450, 1, none⟩ = some (.int .i64 t448) := (kc BK450.out 1).trans rfl; have hcz39_2 : w38.cell? ⟨gb450, 2, none⟩ = some (.int .i64 t449) := (kc BK450.out 2).trans rfl; have hfz39_0 := kf BK450.out 0; have hfz39_1 := kf BK450.out 1; have hfz39_2 := kf BK450.out 2) | ((with_reducible refine gate_callee (f := 18) rfl ?_); refine goesL_ (some 51) rfl rfl Try.func18 (by kernel_rfl) rfl #[.slice Ao37 t444.length co37, .agg #[.int .i64 t447, .int .i64 t448, .int .i64 t449]] rfl (by (try simp only [List.map_toArray, List.map_cons, List.map_nil]); first | done | rfl | (simp only [List.length_drop, List.length_take]; rfl)) ?_; (with_reducible refine (spec_DoesTile.calls k _ _ t444 t447 t448 t449 t453 t454 _ ?side1 ?side2 A9.out).mono ?_); (case side1 => repeat (first | exact (Kd.R_reads' HO446.out).2.2 | (with_reducible refine Kd.C_alloc ?_ _) | (with_reducible refine Kd.C_drewN ?_ _) | (with_reducible refine Kd.C_drew ?_))); (case side2 => exact (Kd.R_reads' HO446.out).2.1); rintro e w40 ⟨rfl, hb⟩; refine ⟨_, rfl, ?_⟩; have n0_ := am (Kd.R_below (by (with_reducible repeat (first | apply Kd.R_alloc | apply Kd.R_drewN | apply Kd.R_drew)); exact HO446.out) hb); have n1_ := am (k4 (g := gb434) (o := .cells #[.int .i64 t429, .int .i64 t430] 37 (0, 0)) (by (with_reducible repeat (first | refine k2 ?_ _ | refine k3 ?_ | refine k1 ?_ _)); exact BK434.out) hb); have n2_ := am (k4 (g := gb435) (o := .cells #[.int .i64 t431, .int .i64 t432, .int .i64 t433] 30 (0, 0)) (by (with_reducible repeat (first | refine k2 ?_ _ | refine k3 ?_ | refine k1 ?_ _)); exact BK435.out) hb); have n3_ := am (k4 (g := gb439) (o := .cells #[.int .i64 t436, .int .i64 t437] 37 (0, 0)) (by (with_reducible repeat (first | refine k2 ?_ _ | refine k3 ?_ | refine k1 ?_ _)); exact BK439.out) hb); have n4_ := am (k4 (g := gb443) (o := .cells #[.int .i64 t440, .int .i64 t441] 37 (0, 0)) (by (with_reducible repeat (first | refine k2 ?_ _ | refine k3 ?_ | refine k1 ?_ _)); exact BK443.out) hb); have n5_ := am (k4 (g := gb450) (o := .cells #[.int .i64 t447, .int .i64 t448, .int .i64 t449] 30 (0, 0)) (by (with_reducible repeat (first | refine k2 ?_ _ | refine k3 ?_ | refine k1 ?_ _)); exact BK450.out) hb); have n6_ := am (b6 (by repeat (first | (with_reducible first | exact HB.out | apply b1 | apply b2 | apply b3 | refine b4 ?_ GE434.out | refine b4 ?_ GE435.out | refine b4 ?_ GE439.out | refine b4 ?_ GE443.out | refine b4 ?_ GE450.out) | exact HB.out)) hb); clear HO446; clear BK434; clear BK435; clear BK439; clear BK443; clear BK450; clear HB; have HO446 := n0_; have BK434 := n1_; have BK435 := n2_; have BK439 := n3_; have BK443 := n4_; have BK450 := n5_; have HB := n6_; clear n0_ n1_ n2_ n3_ n4_ n5_ n6_; (try clear hb); (try clear hb2); (try clear hk); (try clear hi)))
  (try simp only [Act.put, sa])
  go_cut [78] (fun v78 wc => ∃ (kq : Nat) (x78_9 : Bool), v78 = .bool x78_9 ∧ Aside0 (laws_FnModulo.j0 kq t438 x78_9 t429 t430 t431 t432 t433 t436 t437 = some true) ∧ Aside0 (kq ≤ k) ∧ Aside0 (wc.heap[gb434]? = some (.cells #[.int .i64 t429, .int .i64 t430] 37 (0, 0))) ∧ Aside0 (wc.heap[gb435]? = some (.cells #[.int .i64 t431, .int .i64 t432, .int .i64 t433] 30 (0, 0))) ∧ Aside0 (wc.heap[gb439]? = some (.cells #[.int .i64 t436, .int .i64 t437] 37 (0, 0))) ∧ Aside0 (wc.heap[gb443]? = some (.cells #[.int .i64 t440, .int .i64 t441] 37 (0, 0))) ∧ Aside0 (wc.heap[gb450]? = some (.cells #[.int .i64 t447, .int .i64 t448, .int .i64 t449] 30 (0, 0))) ∧ Aside0 (Below w.heap.size w wc))
  case first =>
   have H := HC10.out
   clear HC10
   by_cases c41 : t438 = t442
   ·rw [if_pos c41] at H
    have c41b0 : (t438 == t442) = true := beq_iff_eq.mpr c41
    have c41b1 : (t438 != t442) = false := bne_eq_false_iff_eq.mpr c41
    clear c41
    (first | rw [c41b0] | (simp only [i64_w, i32_w]; rw [c41b0]) | skip)
    by_cases c42 : (!(t436 == t440) || (!(t437 == t441))) = true
    ·rw [if_pos c42] at H
     have c42b0 : (!(t436 == t440) || (!(t437 == t441))) = true := c42
     clear c42
     have H' := am H
     clear H
     try go_wp2
     have n0_ := am (Kd.R_drew HO446.out)
     have n1_ := am (k3 BK434.out)
     have n2_ := am (k3 BK435.out)
     have n3_ := am (k3 BK439.out)
     have n4_ := am (k3 BK443.out)
     have n5_ := am (k3 BK450.out)
     have n6_ := am (b3 HB.out)
     clear HO446
     clear BK434
     clear BK435
     clear BK439
     clear BK443
     clear BK450
     clear HB
     have HO446 := n0_
     have BK434 := n1_
     have BK435 := n2_
     have BK439 := n3_
     have BK443 := n4_
     have BK450 := n5_
     have HB := n6_
     clear n0_ n1_ n2_ n3_ n4_ n5_ n6_
     refine start_ (n := 25) (S := fun w' => w'.cell? ⟨gb439, 0, none⟩ = some (.int .i64 t436) ∧ w'.cell? ⟨gb439, 1, none⟩ = some (.int .i64 t437) ∧ w'.cell? ⟨gb443, 0, none⟩ = some (.int .i64 t440) ∧ w'.cell? ⟨gb443, 1, none⟩ = some (.int .i64 t441)) (ds := []) laws_FnModulo.m0 (by kernel_rfl) rfl rfl ⟨(kc BK439.out 0).trans rfl, (kc BK439.out 1).trans rfl, (kc BK443.out 0).trans rfl, (kc BK443.out 1).trans rfl⟩ (fun hHeld => ?_); refine with_tabW laws_FnModulo.tab9 laws_FnModulo.bits9 (fun HT_ HW_ => ?_)
     generalize w40.drew = w43 at HO446 BK434 BK435 BK439 BK443 BK450 HB hHeld ⊢
     refine pure_ (i := 0) (N := some 54) (v := ?_) (a' := ?_) laws_FnModulo.m1 rfl rfl (any_of HT_.out (by kernel_rfl)) (fun _ _ _ h => h) (Or.inl ⟨by rfl, ?_⟩) ?_ ?_
     rotate_left
     ·intro w'
      go_simp
      with_reducible rfl
     rotate_left
     ·simp only [Act.put, sa, i64_w, i32_w]
      rfl
     refine pure_ (i := 1) (N := some 55) (v := ?_) (a' := ?_) laws_FnModulo.m2 rfl rfl (any_of HT_.out (by kernel_rfl)) (fun _ _ _ h => h) (Or.inl ⟨by rfl, ?_⟩) ?_ ?_
     rotate_left
     ·intro w'
      go_simp
      with_reducible rfl
     rotate_left
     ·simp only [Act.put, sa, i64_w, i32_w]
      rfl
     refine pure_ (i := 2) (N := some 56) (v := ?_) (a' := ?_) laws_FnModulo.m3 rfl rfl (any_of HT_.out (by kernel_rfl)) (fun _ _ _ h => h) (Or.inl ⟨by rfl, ?_⟩) ?_ ?_
     rotate_left
     ·intro w'
      go_simp
      with_reducible rfl
     rotate_left
     ·simp only [Act.put, sa, i64_w, i32_w]
      rfl
     refine pure_ (i := 3) (N := some 57) (v := ?_) (a' := ?_) laws_FnModulo.m4 rfl rfl (any_of HT_.out (by kernel_rfl)) (fun _ _ _ h => h) (Or.inl ⟨by rfl, ?_⟩) ?_ ?_
     rotate_left
     ·intro w'
      go_simp
      with_reducible rfl
     rotate_left
     ·simp only [Act.put, sa, i64_w, i32_w]
      rfl
     refine take_ (i := 4) (N := some 58) (v := ?_) (a' := ?_) laws_FnModulo.m5 rfl rfl (take_ofW HT_.out HW_.out (by kernel_rfl)) (fun _ _ _ h => h) (Or.inl ⟨by rfl, ?_⟩) hHeld ?_ ?_
     rotate_left
     ·rintro w' ⟨s0, s1, s2, s3⟩
      go_simp
      with_reducible rfl
     rotate_left
     ·simp only [Act.put, sa, i64_w, i32_w]
      rfl
     refine take_ (i := 5) (N := some 59) (v := ?_) (a' := ?_) laws_FnModulo.m6 rfl rfl (take_ofW HT_.out HW_.out (by kernel_rfl)) (fun _ _ _ h => h) (Or.inl ⟨by rfl, ?_⟩) hHeld ?_ ?_
     rotate_left
     ·rintro w' ⟨s0, s1, s2, s3⟩
      go_simp
      with_reducible rfl
     rotate_left
     ·simp only [Act.put, sa, i64_w, i32_w]
      rfl
     refine pure_ (i := 6) (N := some 60) (v := ?_) (a' := ?_) laws_FnModulo.m7 rfl rfl (any_of HT_.out (by kernel_rfl)) (fun _ _ _ h => h) (Or.inl ⟨by rfl, ?_⟩) ?_ ?_
     rotate_left
     ·intro w'
      go_simp
      with_reducible rfl
     rotate_left
     ·simp only [Act.put, sa, i64_w, i32_w]
      rfl
     refine pure_ (i := 7) (N := some 61) (v := ?_) (a' := ?_) laws_FnModulo.m8 rfl rfl (any_of HT_.out (by kernel_rfl)) (fun _ _ _ h => h) (Or.inl ⟨by rfl, ?_⟩) ?_ ?_
     rotate_left
     ·intro w'
      go_simp
      with_reducible rfl
     rotate_left
     ·simp only [Act.put, sa, i64_w, i32_w]
      rfl
     refine pure_ (i := 8) (N := some 62) (v := ?_) (a' := ?_) laws_FnModulo.m9 rfl rfl (any_of HT_.out (by kernel_rfl)) (fun _ _ _ h => h) (Or.inl ⟨by rfl, ?_⟩) ?_ ?_
     rotate_left
     ·intro w'
      go_simp
      with_reducible rfl
     rotate_left
     ·simp only [Act.put, sa, i64_w, i32_w]
      rfl
     refine pure_ (i := 9) (N := some 63) (v := undef) (a' := ?_) laws_FnModulo.m10 rfl rfl (any_of HT_.out (by kernel_rfl)) (fun _ _ _ h => h) (Or.inr ⟨by rfl, rfl⟩) ?_ ?_
     rotate_left
     ·simp only [Act.put, sa, i64_w, i32_w]
      rfl
     refine pure_ (i := 10) (N := some 64) (v := undef) (a' := ?_) laws_FnModulo.m11 rfl rfl (any_of HT_.out (by kernel_rfl)) (fun _ _ _ h => h) (Or.inr ⟨by rfl, rfl⟩) ?_ ?_
     rotate_left
     ·simp only [Act.put, sa, i64_w, i32_w]
      rfl
     refine pure_ (i := 11) (N := some 65) (v := undef) (a' := ?_) laws_FnModulo.m12 rfl rfl (any_of HT_.out (by kernel_rfl)) (fun _ _ _ h => h) (Or.inr ⟨by rfl, rfl⟩) ?_ ?_
     rotate_left
     ·simp only [Act.put, sa, i64_w, i32_w]
      rfl
     refine pure_ (i := 12) (N := some 66) (v := ?_) (a' := ?_) laws_FnModulo.m13 rfl rfl (any_of HT_.out (by kernel_rfl)) (fun _ _ _ h => h) (Or.inl ⟨by rfl, ?_⟩) ?_ ?_
     rotate_left
     ·intro w'
      go_simp
      with_reducible rfl
     rotate_left
     ·simp only [Act.put, sa, i64_w, i32_w]
      rfl
     refine pure_ (i := 13) (N := some 67) (v := ?_) (a' := ?_) laws_FnModulo.m14 rfl rfl (any_of HT_.out (by kernel_rfl)) (fun _ _ _ h => h) (Or.inl ⟨by rfl, ?_⟩) ?_ ?_
     rotate_left
     ·intro w'
      go_simp
      with_reducible rfl
     rotate_left
     ·simp only [Act.put, sa, i64_w, i32_w]
      rfl
     refine pure_ (i := 14) (N := some 68) (v := undef) (a' := ?_) laws_FnModulo.m15 rfl rfl (any_of HT_.out (by kernel_rfl)) (fun _ _ _ h => h) (Or.inr ⟨by rfl, rfl⟩) ?_ ?_
     rotate_left
     ·simp only [Act.put, sa, i64_w, i32_w]
      rfl
     refine pure_ (i := 15) (N := some 69) (v := undef) (a' := ?_) laws_FnModulo.m16 rfl rfl (any_of HT_.out (by kernel_rfl)) (fun _ _ _ h => h) (Or.inr ⟨by rfl, rfl⟩) ?_ ?_
     rotate_left
     ·simp only [Act.put, sa, i64_w, i32_w]
      rfl
     refine pure_ (i := 16) (N := some 70) (v := undef) (a' := ?_) laws_FnModulo.m17 rfl rfl (any_of HT_.out (by kernel_rfl)) (fun _ _ _ h => h) (Or.inr ⟨by rfl, rfl⟩) ?_ ?_
     rotate_left
     ·simp only [Act.put, sa, i64_w, i32_w]
      rfl
     refine pure_ (i := 17) (N := some 71) (v := ?_) (a' := ?_) laws_FnModulo.m18 rfl rfl (any_of HT_.out (by kernel_rfl)) (fun _ _ _ h => h) (Or.inl ⟨by rfl, ?_⟩) ?_ ?_
     rotate_left
     ·intro w'
      go_simp
      with_reducible rfl
     rotate_left
     ·simp only [Act.put, sa, i64_w, i32_w]
      rfl
     refine pure_ (i := 18) (N := some 72) (v := ?_) (a' := ?_) laws_FnModulo.m19 rfl rfl (any_of HT_.out (by kernel_rfl)) (fun _ _ _ h => h) (Or.inl ⟨by rfl, ?_⟩) ?_ ?_
     rotate_left
     ·intro w'
      go_simp
      with_reducible rfl
     rotate_left
     ·simp only [Act.put, sa, i64_w, i32_w]
      rfl
     refine pure_ (i := 19) (N := some 73) (v := undef) (a' := ?_) laws_FnModulo.m20 rfl rfl (any_of HT_.out (by kernel_rfl)) (fun _ _ _ h => h) (Or.inr ⟨by rfl, rfl⟩) ?_ ?_
     rotate_left
     ·simp only [Act.put, sa, i64_w, i32_w]
      rfl
     refine pure_ (i := 20) (N := some 74) (v := undef) (a' := ?_) laws_FnModulo.m21 rfl rfl (any_of HT_.out (by kernel_rfl)) (fun _ _ _ h => h) (Or.inr ⟨by rfl, rfl⟩) ?_ ?_
     rotate_left
     ·simp only [Act.put, sa, i64_w, i32_w]
      rfl
     refine pure_ (i := 21) (N := some 75) (v := undef) (a' := ?_) laws_FnModulo.m22 rfl rfl (any_of HT_.out (by kernel_rfl)) (fun _ _ _ h => h) (Or.inr ⟨by rfl, rfl⟩) ?_ ?_
     rotate_left
     ·simp only [Act.put, sa, i64_w, i32_w]
      rfl
     refine pure_ (i := 22) (N := some 76) (v := undef) (a' := ?_) laws_FnModulo.m23 rfl rfl (any_of HT_.out (by kernel_rfl)) (fun _ _ _ h => h) (Or.inr ⟨by rfl, rfl⟩) ?_ ?_
     rotate_left
     ·simp only [Act.put, sa, i64_w, i32_w]
      rfl
     refine pure_ (i := 23) (N := some 77) (v := undef) (a' := ?_) laws_FnModulo.m24 rfl rfl (any_of HT_.out (by kernel_rfl)) (fun _ _ _ h => h) (Or.inr ⟨by rfl, rfl⟩) ?_ ?_
     rotate_left
     ·simp only [Act.put, sa, i64_w, i32_w]
      rfl
     refine pure_ (i := 24) (N := some 78) (v := ?_) (a' := ?_) laws_FnModulo.m25 rfl rfl (any_of HT_.out (by kernel_rfl)) (fun _ _ _ h => h) (Or.inl ⟨by rfl, ?_⟩) ?_ ?_
     rotate_left
     ·intro w'
      go_simp
      with_reducible rfl
     rotate_left
     ·simp only [Act.put, sa, i64_w, i32_w]
      rfl
     refine done_ (done_of HT_.out (by kernel_rfl)) ?_
     try go_wp2
     go_meet
     case rel => exact ⟨_, (true), (by first | rfl | (simp; done) | (simp [*]; done)), H', ⟨by first | omega | exact Nat.le_refl _⟩, ⟨by (with_reducible repeat (first | refine k2 ?_ _ | refine k3 ?_ | refine k1 ?_ _)); exact BK434.out⟩, ⟨by (with_reducible repeat (first | refine k2 ?_ _ | refine k3 ?_ | refine k1 ?_ _)); exact BK435.out⟩, ⟨by (with_reducible repeat (first | refine k2 ?_ _ | refine k3 ?_ | refine k1 ?_ _)); exact BK439.out⟩, ⟨by (with_reducible repeat (first | refine k2 ?_ _ | refine k3 ?_ | refine k1 ?_ _)); exact BK443.out⟩, ⟨by (with_reducible repeat (first | refine k2 ?_ _ | refine k3 ?_ | refine k1 ?_ _)); exact BK450.out⟩, ⟨by repeat (first | (with_reducible first | exact HB.out | apply b1 | apply b2 | apply b3 | refine b4 ?_ GE434.out | refine b4 ?_ GE435.out | refine b4 ?_ GE439.out | refine b4 ?_ GE443.out | refine b4 ?_ GE450.out) | exact HB.out)⟩⟩
    ·rw [if_neg c42] at H
     have c42b0 : (!(t436 == t440) || (!(t437 == t441))) = false := by simpa using c42
     clear c42
     by_cases c44 : t452 = t454
     ·rw [if_pos c44] at H
      have c44b0 : (t452 == t454) = true := beq_iff_eq.mpr c44
      have c44b1 : (t452 != t454) = false := bne_eq_false_iff_eq.mpr c44
      clear c44
      by_cases c45 : (t451 != t453) = true
      ·rw [if_pos c45] at H
       have c45b0 : (t451 != t453) = true := c45
       (try (have c45b1 : decide (t451 = t453) = false := by simpa using c45))
       (try (have c45b2 : (t451 == t453) = false := by simpa using c45))
       (try (have c45b3 : ¬ (t451 = t453) := by simpa using c45))
       clear c45
       have H' := am H
       clear H
       try go_wp2
       have n0_ := am (Kd.R_drew HO446.out)
       have n1_ := am (k3 BK434.out)
       have n2_ := am (k3 BK435.out)
       have n3_ := am (k3 BK439.out)
       have n4_ := am (k3 BK443.out)
       have n5_ := am (k3 BK450.out)
       have n6_ := am (b3 HB.out)
       clear HO446
       clear BK434
       clear BK435
       clear BK439
       clear BK443
       clear BK450
       clear HB
       have HO446 := n0_
       have BK434 := n1_
       have BK435 := n2_
       have BK439 := n3_
       have BK443 := n4_
       have BK450 := n5_
       have HB := n6_
       clear n0_ n1_ n2_ n3_ n4_ n5_ n6_
       refine start_ (n := 25) (S := fun w' => w'.cell? ⟨gb439, 0, none⟩ = some (.int .i64 t436) ∧ w'.cell? ⟨gb439, 1, none⟩ = some (.int .i64 t437) ∧ w'.cell? ⟨gb443, 0, none⟩ = some (.int .i64 t440) ∧ w'.cell? ⟨gb443, 1, none⟩ = some (.int .i64 t441)) (ds := []) laws_FnModulo.m0 (by kernel_rfl) rfl rfl ⟨(kc BK439.out 0).trans rfl, (kc BK439.out 1).trans rfl, (kc BK443.out 0).trans rfl, (kc BK443.out 1).trans rfl⟩ (fun hHeld => ?_); refine with_tabW laws_FnModulo.tab9 laws_FnModulo.bits9 (fun HT_ HW_ => ?_)
       generalize w40.drew = w46 at HO446 BK434 BK435 BK439 BK443 BK450 HB hHeld ⊢
       refine pure_ (i := 0) (N := some 54) (v := ?_) (a' := ?_) laws_FnModulo.m1 rfl rfl (any_of HT_.out (by kernel_rfl)) (fun _ _ _ h => h) (Or.inl ⟨by rfl, ?_⟩) ?_ ?_
       rotate_left
       ·intro w'
        go_simp
        with_reducible rfl
       rotate_left
       ·simp only [Act.put, sa, i64_w, i32_w]
        rfl
       refine pure_ (i := 1) (N := some 55) (v := ?_) (a' := ?_) laws_FnModulo.m2 rfl rfl (any_of HT_.out (by kernel_rfl)) (fun _ _ _ h => h) (Or.inl ⟨by rfl, ?_⟩) ?_ ?_
       rotate_left
       ·intro w'
        go_simp
        with_reducible rfl
       rotate_left
       ·simp only [Act.put, sa, i64_w, i32_w]
        rfl
       refine pure_ (i := 2) (N := some 56) (v := ?_) (a' := ?_) laws_FnModulo.m3 rfl rfl (any_of HT_.out (by kernel_rfl)) (fun _ _ _ h => h) (Or.inl ⟨by rfl, ?_⟩) ?_ ?_
       rotate_left
       ·intro w'
        go_simp
        with_reducible rfl
       rotate_left
       ·simp only [Act.put, sa, i64_w, i32_w]
        rfl
       refine pure_ (i := 3) (N := some 57) (v := ?_) (a' := ?_) laws_FnModulo.m4 rfl rfl (any_of HT_.out (by kernel_rfl)) (fun _ _ _ h => h) (Or.inl ⟨by rfl, ?_⟩) ?_ ?_
       rotate_left
       ·intro w'
        go_simp
        with_reducible rfl
       rotate_left
       ·simp only [Act.put, sa, i64_w, i32_w]
        rfl
       refine take_ (i := 4) (N := some 58) (v := ?_) (a' := ?_) laws_FnModulo.m5 rfl rfl (take_ofW HT_.out HW_.out (by kernel_rfl)) (fun _ _ _ h => h) (Or.inl ⟨by rfl, ?_⟩) hHeld ?_ ?_
       rotate_left
       ·rintro w' ⟨s0, s1, s2, s3⟩
        go_simp
        with_reducible rfl
       rotate_left
       ·simp only [Act.put, sa, i64_w, i32_w]
        rfl
       refine take_ (i := 5) (N := some 59) (v := ?_) (a' := ?_) laws_FnModulo.m6 rfl rfl (take_ofW HT_.out HW_.out (by kernel_rfl)) (fun _ _ _ h => h) (Or.inl ⟨by rfl, ?_⟩) hHeld ?_ ?_
       rotate_left
       ·rintro w' ⟨s0, s1, s2, s3⟩
        go_simp
        with_reducible rfl
       rotate_left
       ·simp only [Act.put, sa, i64_w, i32_w]
        rfl
       refine pure_ (i := 6) (N := some 60) (v := ?_) (a' := ?_) laws_FnModulo.m7 rfl rfl (any_of HT_.out (by kernel_rfl)) (fun _ _ _ h => h) (Or.inl ⟨by rfl, ?_⟩) ?_ ?_
       rotate_left
       ·intro w'
        go_simp
        with_reducible rfl
       rotate_left
       ·simp only [Act.put, sa, i64_w, i32_w]
        rfl
       refine pure_ (i := 7) (N := some 61) (v := ?_) (a' := ?_) laws_FnModulo.m8 rfl rfl (any_of HT_.out (by kernel_rfl)) (fun _ _ _ h => h) (Or.inl ⟨by rfl, ?_⟩) ?_ ?_
       rotate_left
       ·intro w'
        go_simp
        with_reducible rfl
       rotate_left
       ·simp only [Act.put, sa, i64_w, i32_w]
        rfl
       refine pure_ (i := 8) (N := some 62) (v := ?_) (a' := ?_) laws_FnModulo.m9 rfl rfl (any_of HT_.out (by kernel_rfl)) (fun _ _ _ h => h) (Or.inl ⟨by rfl, ?_⟩) ?_ ?_
       rotate_left
       ·intro w'
        go_simp
        with_reducible rfl
       rotate_left
       ·simp only [Act.put, sa, i64_w, i32_w]
        rfl
       refine pure_ (i := 9) (N := some 63) (v := ?_) (a' := ?_) laws_FnModulo.m10 rfl rfl (any_of HT_.out (by kernel_rfl)) (fun _ _ _ h => h) (Or.inl ⟨by rfl, ?_⟩) ?_ ?_
       rotate_left
       ·intro w'
        go_simp
        with_reducible rfl
       rotate_left
       ·simp only [Act.put, sa, i64_w, i32_w]
        rfl
       refine pure_ (i := 10) (N := some 64) (v := ?_) (a' := ?_) laws_FnModulo.m11 rfl rfl (any_of HT_.out (by kernel_rfl)) (fun _ _ _ h => h) (Or.inl ⟨by rfl, ?_⟩) ?_ ?_
       rotate_left
       ·intro w'
        go_simp
        with_reducible rfl
       rotate_left
       ·simp only [Act.put, sa, i64_w, i32_w]
        rfl
       refine pure_ (i := 11) (N := some 65) (v := ?_) (a' := ?_) laws_FnModulo.m12 rfl rfl (any_of HT_.out (by kernel_rfl)) (fun _ _ _ h => h) (Or.inl ⟨by rfl, ?_⟩) ?_ ?_
       rotate_left
       ·intro w'
        go_simp
        with_reducible rfl
       rotate_left
       ·simp only [Act.put, sa, i64_w, i32_w]
        rfl
       refine pure_ (i := 12) (N := some 66) (v := ?_) (a' := ?_) laws_FnModulo.m13 rfl rfl (any_of HT_.out (by kernel_rfl)) (fun _ _ _ h => h) (Or.inl ⟨by rfl, ?_⟩) ?_ ?_
       rotate_left
       ·intro w'
        go_simp
        with_reducible rfl
       rotate_left
       ·simp only [Act.put, sa, i64_w, i32_w]
        rfl
       refine pure_ (i := 13) (N := some 67) (v := ?_) (a' := ?_) laws_FnModulo.m14 rfl rfl (any_of HT_.out (by kernel_rfl)) (fun _ _ _ h => h) (Or.inl ⟨by rfl, ?_⟩) ?_ ?_
       rotate_left
       ·intro w'
        go_simp
        with_reducible rfl
       rotate_left
       ·simp only [Act.put, sa, i64_w, i32_w]
        rfl
       refine pure_ (i := 14) (N := some 68) (v := ?_) (a' := ?_) laws_FnModulo.m15 rfl rfl (any_of HT_.out (by kernel_rfl)) (fun _ _ _ h => h) (Or.inl ⟨by rfl, ?_⟩) ?_ ?_
       rotate_left
       ·intro w'
        go_simp
        with_reducible rfl
       rotate_left
       ·simp only [Act.put, sa, i64_w, i32_w]
        rfl
       refine pure_ (i := 15) (N := some 69) (v := ?_) (a' := ?_) laws_FnModulo.m16 rfl rfl (any_of HT_.out (by kernel_rfl)) (fun _ _ _ h => h) (Or.inl ⟨by rfl, ?_⟩) ?_ ?_
       rotate_left
       ·intro w'
        go_simp
        with_reducible rfl
       rotate_left
       ·simp only [Act.put, sa, i64_w, i32_w]
        rfl
       refine pure_ (i := 16) (N := some 70) (v := ?_) (a' := ?_) laws_FnModulo.m17 rfl rfl (any_of HT_.out (by kernel_rfl)) (fun _ _ _ h => h) (Or.inl ⟨by rfl, ?_⟩) ?_ ?_
       rotate_left
       ·intro w'
        go_simp
        with_reducible rfl
       rotate_left
       ·simp only [Act.put, sa, i64_w, i32_w]
        rfl
       refine pure_ (i := 17) (N := some 71) (v := ?_) (a' := ?_) laws_FnModulo.m18 rfl rfl (any_of HT_.out (by kernel_rfl)) (fun _ _ _ h => h) (Or.inl ⟨by rfl, ?_⟩) ?_ ?_
       rotate_left
       ·intro w'
        go_simp
        with_reducible rfl
       rotate_left
       ·simp only [Act.put, sa, i64_w, i32_w]
        rfl
       refine pure_ (i := 18) (N := some 72) (v := ?_) (a' := ?_) laws_FnModulo.m19 rfl rfl (any_of HT_.out (by kernel_rfl)) (fun _ _ _ h => h) (Or.inl ⟨by rfl, ?_⟩) ?_ ?_
       rotate_left
       ·intro w'
        go_simp
        with_reducible rfl
       rotate_left
       ·simp only [Act.put, sa, i64_w, i32_w]
        rfl
       refine pure_ (i := 19) (N := some 73) (v := undef) (a' := ?_) laws_FnModulo.m20 rfl rfl (any_of HT_.out (by kernel_rfl)) (fun _ _ _ h => h) (Or.inr ⟨by rfl, rfl⟩) ?_ ?_
       rotate_left
       ·simp only [Act.put, sa, i64_w, i32_w]
        rfl
       refine pure_ (i := 20) (N := some 74) (v := undef) (a' := ?_) laws_FnModulo.m21 rfl rfl (any_of HT_.out (by kernel_rfl)) (fun _ _ _ h => h) (Or.inr ⟨by rfl, rfl⟩) ?_ ?_
       rotate_left
       ·simp only [Act.put, sa, i64_w, i32_w]
        rfl
       refine pure_ (i := 21) (N := some 75) (v := undef) (a' := ?_) laws_FnModulo.m22 rfl rfl (any_of HT_.out (by kernel_rfl)) (fun _ _ _ h => h) (Or.inr ⟨by rfl, rfl⟩) ?_ ?_
       rotate_left
       ·simp only [Act.put, sa, i64_w, i32_w]
        rfl
       refine pure_ (i := 22) (N := some 76) (v := undef) (a' := ?_) laws_FnModulo.m23 rfl rfl (any_of HT_.out (by kernel_rfl)) (fun _ _ _ h => h) (Or.inr ⟨by rfl, rfl⟩) ?_ ?_
       rotate_left
       ·simp only [Act.put, sa, i64_w, i32_w]
        rfl
       refine pure_ (i := 23) (N := some 77) (v := undef) (a' := ?_) laws_FnModulo.m24 rfl rfl (any_of HT_.out (by kernel_rfl)) (fun _ _ _ h => h) (Or.inr ⟨by rfl, rfl⟩) ?_ ?_
       rotate_left
       ·simp only [Act.put, sa, i64_w, i32_w]
        rfl
       refine pure_ (i := 24) (N := some 78) (v := ?_) (a' := ?_) laws_FnModulo.m25 rfl rfl (any_of HT_.out (by kernel_rfl)) (fun _ _ _ h => h) (Or.inl ⟨by rfl, ?_⟩) ?_ ?_
       rotate_left
       ·intro w'
        go_simp
        with_reducible rfl
       rotate_left
       ·simp only [Act.put, sa, i64_w, i32_w]
        rfl
       refine done_ (done_of HT_.out (by kernel_rfl)) ?_
       try go_wp2
       go_meet
       case rel => exact ⟨_, (true), (by first | rfl | (simp; done) | (simp [*]; done)), H', ⟨by first | omega | exact Nat.le_refl _⟩, ⟨by (with_reducible repeat (first | refine k2 ?_ _ | refine k3 ?_ | refine k1 ?_ _)); exact BK434.out⟩, ⟨by (with_reducible repeat (first | refine k2 ?_ _ | refine k3 ?_ | refine k1 ?_ _)); exact BK435.out⟩, ⟨by (with_reducible repeat (first | refine k2 ?_ _ | refine k3 ?_ | refine k1 ?_ _)); exact BK439.out⟩, ⟨by (with_reducible repeat (first | refine k2 ?_ _ | refine k3 ?_ | refine k1 ?_ _)); exact BK443.out⟩, ⟨by (with_reducible repeat (first | refine k2 ?_ _ | refine k3 ?_ | refine k1 ?_ _)); exact BK450.out⟩, ⟨by repeat (first | (with_reducible first | exact HB.out | apply b1 | apply b2 | apply b3 | refine b4 ?_ GE434.out | refine b4 ?_ GE435.out | refine b4 ?_ GE439.out | refine b4 ?_ GE443.out | refine b4 ?_ GE450.out) | exact HB.out)⟩⟩
      ·rw [if_neg c45] at H
       have c45b0 : (t451 != t453) = false := by simpa using c45
       (try (have c45b1 : decide (t451 = t453) = true := by simpa using c45))
       (try (have c45b2 : (t451 == t453) = true := by simpa using c45))
       clear c45
       replace H := ob H
       obtain ⟨t455, A470, H⟩ := H
       replace H : ((spec_IsLattice.f t431 t432 t433).bind fun t456 => (laws_FnModulo.j0 k t438 (t455 != t456) t429 t430 t431 t432 t433 t436 t437)) = some true := H
       have A47 := am A470
       clear A470
       replace H := ob H
       obtain ⟨t456, A480, H⟩ := H
       replace H : (laws_FnModulo.j0 k t438 (t455 != t456) t429 t430 t431 t432 t433 t436 t437) = some true := H
       have A48 := am A480
       clear A480
       have H' := am H
       clear H
       try go_wp2
       have n0_ := am (Kd.R_drew HO446.out)
       have n1_ := am (k3 BK434.out)
       have n2_ := am (k3 BK435.out)
       have n3_ := am (k3 BK439.out)
       have n4_ := am (k3 BK443.out)
       have n5_ := am (k3 BK450.out)
       have n6_ := am (b3 HB.out)
       clear HO446
       clear BK434
       clear BK435
       clear BK439
       clear BK443
       clear BK450
       clear HB
       have HO446 := n0_
       have BK434 := n1_
       have BK435 := n2_
       have BK439 := n3_
       have BK443 := n4_
       have BK450 := n5_
       have HB := n6_
       clear n0_ n1_ n2_ n3_ n4_ n5_ n6_
       refine start_ (n := 25) (S := fun w' => w'.cell? ⟨gb439, 0, none⟩ = some (.int .i64 t436) ∧ w'.cell? ⟨gb439, 1, none⟩ = some (.int .i64 t437) ∧ w'.cell? ⟨gb443, 0, none⟩ = some (.int .i64 t440) ∧ w'.cell? ⟨gb443, 1, none⟩ = some (.int .i64 t441) ∧ w'.cell? ⟨gb435, 0, none⟩ = some (.int .i64 t431) ∧ w'.cell? ⟨gb435, 1, none⟩ = some (.int .i64 t432) ∧ w'.cell? ⟨gb435, 2, none⟩ = some (.int .i64 t433)) (ds := []) laws_FnModulo.m0 (by kernel_rfl) rfl rfl ⟨(kc BK439.out 0).trans rfl, (kc BK439.out 1).trans rfl, (kc BK443.out 0).trans rfl, (kc BK443.out 1).trans rfl, (kc BK435.out 0).trans rfl, (kc BK435.out 1).trans rfl, (kc BK435.out 2).trans rfl⟩ (fun hHeld => ?_); refine with_tabW laws_FnModulo.tab9 laws_FnModulo.bits9 (fun HT_ HW_ => ?_)
       generalize w40.drew = w49 at HO446 BK434 BK435 BK439 BK443 BK450 HB hHeld ⊢
       refine pure_ (i := 0) (N := some 54) (v := ?_) (a' := ?_) laws_FnModulo.m1 rfl rfl (any_of HT_.out (by kernel_rfl)) (fun _ _ _ h => h) (Or.inl ⟨by rfl, ?_⟩) ?_ ?_
       rotate_left
       ·intro w'
        go_simp
        with_reducible rfl
       rotate_left
       ·simp only [Act.put, sa, i64_w, i32_w]
        rfl
       refine pure_ (i := 1) (N := some 55) (v := ?_) (a' := ?_) laws_FnModulo.m2 rfl rfl (any_of HT_.out (by kernel_rfl)) (fun _ _ _ h => h) (Or.inl ⟨by rfl, ?_⟩) ?_ ?_
       rotate_left
       ·intro w'
        go_simp
        with_reducible rfl
       rotate_left
       ·simp only [Act.put, sa, i64_w, i32_w]
        rfl
       refine pure_ (i := 2) (N := some 56) (v := ?_) (a' := ?_) laws_FnModulo.m3 rfl rfl (any_of HT_.out (by kernel_rfl)) (fun _ _ _ h => h) (Or.inl ⟨by rfl, ?_⟩) ?_ ?_
       rotate_left
       ·intro w'
        go_simp
        with_reducible rfl
       rotate_left
       ·simp only [Act.put, sa, i64_w, i32_w]
        rfl
       refine pure_ (i := 3) (N := some 57) (v := ?_) (a' := ?_) laws_FnModulo.m4 rfl rfl (any_of HT_.out (by kernel_rfl)) (fun _ _ _ h => h) (Or.inl ⟨by rfl, ?_⟩) ?_ ?_
       rotate_left
       ·intro w'
        go_simp
        with_reducible rfl
       rotate_left
       ·simp only [Act.put, sa, i64_w, i32_w]
        rfl
       refine take_ (i := 4) (N := some 58) (v := ?_) (a' := ?_) laws_FnModulo.m5 rfl rfl (take_ofW HT_.out HW_.out (by kernel_rfl)) (fun _ _ _ h => h) (Or.inl ⟨by rfl, ?_⟩) hHeld ?_ ?_
       rotate_left
       ·rintro w' ⟨s0, s1, s2, s3, s4, s5, s6⟩
        go_simp
        with_reducible rfl
       rotate_left
       ·simp only [Act.put, sa, i64_w, i32_w]
        rfl
       refine take_ (i := 5) (N := some 59) (v := ?_) (a' := ?_) laws_FnModulo.m6 rfl rfl (take_ofW HT_.out HW_.out (by kernel_rfl)) (fun _ _ _ h => h) (Or.inl ⟨by rfl, ?_⟩) hHeld ?_ ?_
       rotate_left
       ·rintro w' ⟨s0, s1, s2, s3, s4, s5, s6⟩
        go_simp
        with_reducible rfl
       rotate_left
       ·simp only [Act.put, sa, i64_w, i32_w]
        rfl
       refine pure_ (i := 6) (N := some 60) (v := ?_) (a' := ?_) laws_FnModulo.m7 rfl rfl (any_of HT_.out (by kernel_rfl)) (fun _ _ _ h => h) (Or.inl ⟨by rfl, ?_⟩) ?_ ?_
       rotate_left
       ·intro w'
        go_simp
        with_reducible rfl
       rotate_left
       ·simp only [Act.put, sa, i64_w, i32_w]
        rfl
       refine pure_ (i := 7) (N := some 61) (v := ?_) (a' := ?_) laws_FnModulo.m8 rfl rfl (any_of HT_.out (by kernel_rfl)) (fun _ _ _ h => h) (Or.inl ⟨by rfl, ?_⟩) ?_ ?_
       rotate_left
       ·intro w'
        go_simp
        with_reducible rfl
       rotate_left
       ·simp only [Act.put, sa, i64_w, i32_w]
        rfl
       refine pure_ (i := 8) (N := some 62) (v := ?_) (a' := ?_) laws_FnModulo.m9 rfl rfl (any_of HT_.out (by kernel_rfl)) (fun _ _ _ h => h) (Or.inl ⟨by rfl, ?_⟩) ?_ ?_
       rotate_left
       ·intro w'
        go_simp
        with_reducible rfl
       rotate_left
       ·simp only [Act.put, sa, i64_w, i32_w]
        rfl
       refine pure_ (i := 9) (N := some 63) (v := ?_) (a' := ?_) laws_FnModulo.m10 rfl rfl (any_of HT_.out (by kernel_rfl)) (fun _ _ _ h => h) (Or.inl ⟨by rfl, ?_⟩) ?_ ?_
       rotate_left
       ·intro w'
        go_simp
        with_reducible rfl
       rotate_left
       ·simp only [Act.put, sa, i64_w, i32_w]
        rfl
       refine pure_ (i := 10) (N := some 64) (v := ?_) (a' := ?_) laws_FnModulo.m11 rfl rfl (any_of HT_.out (by kernel_rfl)) (fun _ _ _ h => h) (Or.inl ⟨by rfl, ?_⟩) ?_ ?_
       rotate_left
       ·intro w'
        go_simp
        with_reducible rfl
       rotate_left
       ·simp only [Act.put, sa, i64_w, i32_w]
        rfl
       refine pure_ (i := 11) (N := some 65) (v := ?_) (a' := ?_) laws_FnModulo.m12 rfl rfl (any_of HT_.out (by kernel_rfl)) (fun _ _ _ h => h) (Or.inl ⟨by rfl, ?_⟩) ?_ ?_
       rotate_left
       ·intro w'
        go_simp
        with_reducible rfl
       rotate_left
       ·simp only [Act.put, sa, i64_w, i32_w]
        rfl
       refine pure_ (i := 12) (N := some 66) (v := ?_) (a' := ?_) laws_FnModulo.m13 rfl rfl (any_of HT_.out (by kernel_rfl)) (fun _ _ _ h => h) (Or.inl ⟨by rfl, ?_⟩) ?_ ?_
       rotate_left
       ·intro w'
        go_simp
        with_reducible rfl
       rotate_left
       ·simp only [Act.put, sa, i64_w, i32_w]
        rfl
       refine pure_ (i := 13) (N := some 67) (v := ?_) (a' := ?_) laws_FnModulo.m14 rfl rfl (any_of HT_.out (by kernel_rfl)) (fun _ _ _ h => h) (Or.inl ⟨by rfl, ?_⟩) ?_ ?_
       rotate_left
       ·intro w'
        go_simp
        with_reducible rfl
       rotate_left
       ·simp only [Act.put, sa, i64_w, i32_w]
        rfl
       refine pure_ (i := 14) (N := some 68) (v := ?_) (a' := ?_) laws_FnModulo.m15 rfl rfl (any_of HT_.out (by kernel_rfl)) (fun _ _ _ h => h) (Or.inl ⟨by rfl, ?_⟩) ?_ ?_
       rotate_left
       ·intro w'
        go_simp
        with_reducible rfl
       rotate_left
       ·simp only [Act.put, sa, i64_w, i32_w]
        rfl
       refine pure_ (i := 15) (N := some 69) (v := ?_) (a' := ?_) laws_FnModulo.m16 rfl rfl (any_of HT_.out (by kernel_rfl)) (fun _ _ _ h => h) (Or.inl ⟨by rfl, ?_⟩) ?_ ?_
       rotate_left
       ·intro w'
        go_simp
        with_reducible rfl
       rotate_left
       ·simp only [Act.put, sa, i64_w, i32_w]
        rfl
       refine pure_ (i := 16) (N := some 70) (v := ?_) (a' := ?_) laws_FnModulo.m17 rfl rfl (any_of HT_.out (by kernel_rfl)) (fun _ _ _ h => h) (Or.inl ⟨by rfl, ?_⟩) ?_ ?_
       rotate_left
       ·intro w'
        go_simp
        with_reducible rfl
       rotate_left
       ·simp only [Act.put, sa, i64_w, i32_w]
        rfl
       refine pure_ (i := 17) (N := some 71) (v := ?_) (a' := ?_) laws_FnModulo.m18 rfl rfl (any_of HT_.out (by kernel_rfl)) (fun _ _ _ h => h) (Or.inl ⟨by rfl, ?_⟩) ?_ ?_
       rotate_left
       ·intro w'
        go_simp
        with_reducible rfl
       rotate_left
       ·simp only [Act.put, sa, i64_w, i32_w]
        rfl
       refine pure_ (i := 18) (N := some 72) (v := ?_) (a' := ?_) laws_FnModulo.m19 rfl rfl (any_of HT_.out (by kernel_rfl)) (fun _ _ _ h => h) (Or.inl ⟨by rfl, ?_⟩) ?_ ?_
       rotate_left
       ·intro w'
        go_simp
        with_reducible rfl
       rotate_left
       ·simp only [Act.put, sa, i64_w, i32_w]
        rfl
       refine take_ (i := 19) (N := some 73) (v := ?_) (a' := ?_) laws_FnModulo.m20 rfl rfl (take_ofW HT_.out HW_.out (by kernel_rfl)) (fun _ _ _ h => h) (Or.inl ⟨by rfl, ?_⟩) hHeld ?_ ?_
       rotate_left
       ·rintro w' ⟨s0, s1, s2, s3, s4, s5, s6⟩
        go_simp
        with_reducible rfl
       rotate_left
       ·simp only [Act.put, sa, i64_w, i32_w]
        rfl
       refine take_ (i := 21) (N := some 75) (v := ?_) (a' := ?_) #[true, true, true, true, true, true, true, true, true, true, true, true, true, true, true, true, true, true, true, true, false, true, false, false, false] rfl rfl (take_ofW HT_.out HW_.out (by kernel_rfl)) (fun _ _ _ h => h) (Or.inl ⟨by rfl, ?_⟩) hHeld ?_ ?_
       rotate_left
       ·rintro w' ⟨s0, s1, s2, s3, s4, s5, s6⟩
        go_simp
        with_reducible rfl
       rotate_left
       ·simp only [Act.put, sa, i64_w, i32_w]
        rfl
       refine one_ (i := 20) (N := some 74) laws_FnModulo.m22 rfl rfl (one_of HT_.out (by kernel_rfl)) (by decide) (fun K hK => ?_)
       refine goes_ Try.func19 (by kernel_rfl) rfl #[.agg #[.int .i64 t431, .int .i64 t432, .int .i64 t433]] (by rfl) rfl rfl (by (try simp only [List.map_toArray, List.map_cons, List.map_nil]); first | done | rfl | (simp only [List.length_drop, List.length_take]; rfl)) ?_
       with_reducible refine (impl_IsLattice.calls t431 t432 t433 t455 _ A47.out).mono ?_
       rintro e w50 ⟨rfl, hb⟩
       refine ⟨_, rfl, ?_⟩
       have n0_ := am (Kd.R_below (by (with_reducible repeat (first | apply Kd.R_alloc | apply Kd.R_drewN | apply Kd.R_drew)); exact HO446.out) hb)
       have n1_ := am (k4 (g := gb434) (o := .cells #[.int .i64 t429, .int .i64 t430] 37 (0, 0)) (by (with_reducible repeat (first | refine k2 ?_ _ | refine k3 ?_ | refine k1 ?_ _)); exact BK434.out) hb)
       have n2_ := am (k4 (g := gb435) (o := .cells #[.int .i64 t431, .int .i64 t432, .int .i64 t433] 30 (0, 0)) (by (with_reducible repeat (first | refine k2 ?_ _ | refine k3 ?_ | refine k1 ?_ _)); exact BK435.out) hb)
       have n3_ := am (k4 (g := gb439) (o := .cells #[.int .i64 t436, .int .i64 t437] 37 (0, 0)) (by (with_reducible repeat (first | refine k2 ?_ _ | refine k3 ?_ | refine k1 ?_ _)); exact BK439.out) hb)
       have n4_ := am (k4 (g := gb443) (o := .cells #[.int .i64 t440, .int .i64 t441] 37 (0, 0)) (by (with_reducible repeat (first | refine k2 ?_ _ | refine k3 ?_ | refine k1 ?_ _)); exact BK443.out) hb)
       have n5_ := am (k4 (g := gb450) (o := .cells #[.int .i64 t447, .int .i64 t448, .int .i64 t449] 30 (0, 0)) (by (with_reducible repeat (first | refine k2 ?_ _ | refine k3 ?_ | refine k1 ?_ _)); exact BK450.out) hb)
       have n6_ := am (b6 (by repeat (first | (with_reducible first | exact HB.out | apply b1 | apply b2 | apply b3 | refine b4 ?_ GE434.out | refine b4 ?_ GE435.out | refine b4 ?_ GE439.out | refine b4 ?_ GE443.out | refine b4 ?_ GE450.out) | exact HB.out)) hb)
       clear HO446
       clear BK434
       clear BK435
       clear BK439
       clear BK443
       clear BK450
       clear HB
       have HO446 := n0_
       have BK434 := n1_
       have BK435 := n2_
       have BK439 := n3_
       have BK443 := n4_
       have BK450 := n5_
       have HB := n6_
       clear n0_ n1_ n2_ n3_ n4_ n5_ n6_
       (try clear hb)
       (try clear hb2)
       (try clear hk)
       (try clear hi)
       refine hK.out _ _ ⟨(kc BK439.out 0).trans rfl, (kc BK439.out 1).trans rfl, (kc BK443.out 0).trans rfl, (kc BK443.out 1).trans rfl, (kc BK435.out 0).trans rfl, (kc BK435.out 1).trans rfl, (kc BK435.out 2).trans rfl⟩ (fun hHeld => ?_)
       clear hK K
       refine norm_ (a' := ?_) ?_ ?_
       rotate_left
       ·show Act.put _ (some 74) _ = _
        simp only [Act.put, sa, i64_w, i32_w]
        rfl
       refine one_ (i := 22) (N := some 76) laws_FnModulo.m23 rfl rfl (one_of HT_.out (by kernel_rfl)) (by decide) (fun K hK => ?_)
       refine goes_ Try.func20 (by kernel_rfl) rfl #[.agg #[.int .i64 t431, .int .i64 t432, .int .i64 t433]] (by rfl) rfl rfl (by (try simp only [List.map_toArray, List.map_cons, List.map_nil]); first | done | rfl | (simp only [List.length_drop, List.length_take]; rfl)) ?_
       with_reducible refine (spec_IsLattice.calls t431 t432 t433 t456 _ A48.out).mono ?_
       rintro e w51 ⟨rfl, hb⟩
       refine ⟨_, rfl, ?_⟩
       have n0_ := am (Kd.R_below (by (with_reducible repeat (first | apply Kd.R_alloc | apply Kd.R_drewN | apply Kd.R_drew)); exact HO446.out) hb)
       have n1_ := am (k4 (g := gb434) (o := .cells #[.int .i64 t429, .int .i64 t430] 37 (0, 0)) (by (with_reducible repeat (first | refine k2 ?_ _ | refine k3 ?_ | refine k1 ?_ _)); exact BK434.out) hb)
       have n2_ := am (k4 (g := gb435) (o := .cells #[.int .i64 t431, .int .i64 t432, .int .i64 t433] 30 (0, 0)) (by (with_reducible repeat (first | refine k2 ?_ _ | refine k3 ?_ | refine k1 ?_ _)); exact BK435.out) hb)
       have n3_ := am (k4 (g := gb439) (o := .cells #[.int .i64 t436, .int .i64 t437] 37 (0, 0)) (by (with_reducible repeat (first | refine k2 ?_ _ | refine k3 ?_ | refine k1 ?_ _)); exact BK439.out) hb)
       have n4_ := am (k4 (g := gb443) (o := .cells #[.int .i64 t440, .int .i64 t441] 37 (0, 0)) (by (with_reducible repeat (first | refine k2 ?_ _ | refine k3 ?_ | refine k1 ?_ _)); exact BK443.out) hb)
       have n5_ := am (k4 (g := gb450) (o := .cells #[.int .i64 t447, .int .i64 t448, .int .i64 t449] 30 (0, 0)) (by (with_reducible repeat (first | refine k2 ?_ _ | refine k3 ?_ | refine k1 ?_ _)); exact BK450.out) hb)
       have n6_ := am (b6 (by repeat (first | (with_reducible first | exact HB.out | apply b1 | apply b2 | apply b3 | refine b4 ?_ GE434.out | refine b4 ?_ GE435.out | refine b4 ?_ GE439.out | refine b4 ?_ GE443.out | refine b4 ?_ GE450.out) | exact HB.out)) hb)
       clear HO446
       clear BK434
       clear BK435
       clear BK439
       clear BK443
       clear BK450
       clear HB
       have HO446 := n0_
       have BK434 := n1_
       have BK435 := n2_
       have BK439 := n3_
       have BK443 := n4_
       have BK450 := n5_
       have HB := n6_
       clear n0_ n1_ n2_ n3_ n4_ n5_ n6_
       (try clear hb)
       (try clear hb2)
       (try clear hk)
       (try clear hi)
       refine hK.out _ _ ⟨(kc BK439.out 0).trans rfl, (kc BK439.out 1).trans rfl, (kc BK443.out 0).trans rfl, (kc BK443.out 1).trans rfl, (kc BK435.out 0).trans rfl, (kc BK435.out 1).trans rfl, (kc BK435.out 2).trans rfl⟩ (fun hHeld => ?_)
       clear hK K
       refine norm_ (a' := ?_) ?_ ?_
       rotate_left
       ·show Act.put _ (some 76) _ = _
        simp only [Act.put, sa, i64_w, i32_w]
        rfl
       refine pure_ (i := 23) (N := some 77) (v := ?_) (a' := ?_) laws_FnModulo.m24 rfl rfl (any_of HT_.out (by kernel_rfl)) (fun _ _ _ h => h) (Or.inl ⟨by rfl, ?_⟩) ?_ ?_
       rotate_left
       ·intro w'
        go_simp
        with_reducible rfl
       rotate_left
       ·simp only [Act.put, sa, i64_w, i32_w]
        rfl
       refine pure_ (i := 24) (N := some 78) (v := ?_) (a' := ?_) laws_FnModulo.m25 rfl rfl (any_of HT_.out (by kernel_rfl)) (fun _ _ _ h => h) (Or.inl ⟨by rfl, ?_⟩) ?_ ?_
       rotate_left
       ·intro w'
        go_simp
        with_reducible rfl
       rotate_left
       ·simp only [Act.put, sa, i64_w, i32_w]
        rfl
       refine done_ (done_of HT_.out (by kernel_rfl)) ?_
       try go_wp2
       go_meet
       case rel => exact ⟨_, ((t455 != t456)), (by first | rfl | (simp; done) | (simp [*]; done)), H', ⟨by first | omega | exact Nat.le_refl _⟩, ⟨by (with_reducible repeat (first | refine k2 ?_ _ | refine k3 ?_ | refine k1 ?_ _)); exact BK434.out⟩, ⟨by (with_reducible repeat (first | refine k2 ?_ _ | refine k3 ?_ | refine k1 ?_ _)); exact BK435.out⟩, ⟨by (with_reducible repeat (first | refine k2 ?_ _ | refine k3 ?_ | refine k1 ?_ _)); exact BK439.out⟩, ⟨by (with_reducible repeat (first | refine k2 ?_ _ | refine k3 ?_ | refine k1 ?_ _)); exact BK443.out⟩, ⟨by (with_reducible repeat (first | refine k2 ?_ _ | refine k3 ?_ | refine k1 ?_ _)); exact BK450.out⟩, ⟨by repeat (first | (with_reducible first | exact HB.out | apply b1 | apply b2 | apply b3 | refine b4 ?_ GE434.out | refine b4 ?_ GE435.out | refine b4 ?_ GE439.out | refine b4 ?_ GE443.out | refine b4 ?_ GE450.out) | exact HB.out)⟩⟩
     ·rw [if_neg c44] at H
      have c44b0 : (t452 == t454) = false := beq_eq_false_iff_ne.mpr c44
      have c44b1 : (t452 != t454) = true := bne_iff_ne.mpr c44
      have H' := am H
      clear H
      try go_wp2
      have n0_ := am (Kd.R_drew HO446.out)
      have n1_ := am (k3 BK434.out)
      have n2_ := am (k3 BK435.out)
      have n3_ := am (k3 BK439.out)
      have n4_ := am (k3 BK443.out)
      have n5_ := am (k3 BK450.out)
      have n6_ := am (b3 HB.out)
      clear HO446
      clear BK434
      clear BK435
      clear BK439
      clear BK443
      clear BK450
      clear HB
      have HO446 := n0_
      have BK434 := n1_
      have BK435 := n2_
      have BK439 := n3_
      have BK443 := n4_
      have BK450 := n5_
      have HB := n6_
      clear n0_ n1_ n2_ n3_ n4_ n5_ n6_
      refine start_ (n := 25) (S := fun w' => w'.cell? ⟨gb439, 0, none⟩ = some (.int .i64 t436) ∧ w'.cell? ⟨gb439, 1, none⟩ = some (.int .i64 t437) ∧ w'.cell? ⟨gb443, 0, none⟩ = some (.int .i64 t440) ∧ w'.cell? ⟨gb443, 1, none⟩ = some (.int .i64 t441)) (ds := []) laws_FnModulo.m0 (by kernel_rfl) rfl rfl ⟨(kc BK439.out 0).trans rfl, (kc BK439.out 1).trans rfl, (kc BK443.out 0).trans rfl, (kc BK443.out 1).trans rfl⟩ (fun hHeld => ?_); refine with_tabW laws_FnModulo.tab9 laws_FnModulo.bits9 (fun HT_ HW_ => ?_)
      generalize w40.drew = w52 at HO446 BK434 BK435 BK439 BK443 BK450 HB hHeld ⊢
      refine pure_ (i := 0) (N := some 54) (v := ?_) (a' := ?_) laws_FnModulo.m1 rfl rfl (any_of HT_.out (by kernel_rfl)) (fun _ _ _ h => h) (Or.inl ⟨by rfl, ?_⟩) ?_ ?_
      rotate_left
      ·intro w'
       go_simp
       with_reducible rfl
      rotate_left
      ·simp only [Act.put, sa, i64_w, i32_w]
       rfl
      refine pure_ (i := 1) (N := some 55) (v := ?_) (a' := ?_) laws_FnModulo.m2 rfl rfl (any_of HT_.out (by kernel_rfl)) (fun _ _ _ h => h) (Or.inl ⟨by rfl, ?_⟩) ?_ ?_
      rotate_left
      ·intro w'
       go_simp
       with_reducible rfl
      rotate_left
      ·simp only [Act.put, sa, i64_w, i32_w]
       rfl
      refine pure_ (i := 2) (N := some 56) (v := ?_) (a' := ?_) laws_FnModulo.m3 rfl rfl (any_of HT_.out (by kernel_rfl)) (fun _ _ _ h => h) (Or.inl ⟨by rfl, ?_⟩) ?_ ?_
      rotate_left
      ·intro w'
       go_simp
       with_reducible rfl
      rotate_left
      ·simp only [Act.put, sa, i64_w, i32_w]
       rfl
      refine pure_ (i := 3) (N := some 57) (v := ?_) (a' := ?_) laws_FnModulo.m4 rfl rfl (any_of HT_.out (by kernel_rfl)) (fun _ _ _ h => h) (Or.inl ⟨by rfl, ?_⟩) ?_ ?_
      rotate_left
      ·intro w'
       go_simp
       with_reducible rfl
      rotate_left
      ·simp only [Act.put, sa, i64_w, i32_w]
       rfl
      refine take_ (i := 4) (N := some 58) (v := ?_) (a' := ?_) laws_FnModulo.m5 rfl rfl (take_ofW HT_.out HW_.out (by kernel_rfl)) (fun _ _ _ h => h) (Or.inl ⟨by rfl, ?_⟩) hHeld ?_ ?_
      rotate_left
      ·rintro w' ⟨s0, s1, s2, s3⟩
       go_simp
       with_reducible rfl
      rotate_left
      ·simp only [Act.put, sa, i64_w, i32_w]
       rfl
      refine take_ (i := 5) (N := some 59) (v := ?_) (a' := ?_) laws_FnModulo.m6 rfl rfl (take_ofW HT_.out HW_.out (by kernel_rfl)) (fun _ _ _ h => h) (Or.inl ⟨by rfl, ?_⟩) hHeld ?_ ?_
      rotate_left
      ·rintro w' ⟨s0, s1, s2, s3⟩
       go_simp
       with_reducible rfl
      rotate_left
      ·simp only [Act.put, sa, i64_w, i32_w]
       rfl
      refine pure_ (i := 6) (N := some 60) (v := ?_) (a' := ?_) laws_FnModulo.m7 rfl rfl (any_of HT_.out (by kernel_rfl)) (fun _ _ _ h => h) (Or.inl ⟨by rfl, ?_⟩) ?_ ?_
      rotate_left
      ·intro w'
       go_simp
       with_reducible rfl
      rotate_left
      ·simp only [Act.put, sa, i64_w, i32_w]
       rfl
      refine pure_ (i := 7) (N := some 61) (v := ?_) (a' := ?_) laws_FnModulo.m8 rfl rfl (any_of HT_.out (by kernel_rfl)) (fun _ _ _ h => h) (Or.inl ⟨by rfl, ?_⟩) ?_ ?_
      rotate_left
      ·intro w'
       go_simp
       with_reducible rfl
      rotate_left
      ·simp only [Act.put, sa, i64_w, i32_w]
       rfl
      refine pure_ (i := 8) (N := some 62) (v := ?_) (a' := ?_) laws_FnModulo.m9 rfl rfl (any_of HT_.out (by kernel_rfl)) (fun _ _ _ h => h) (Or.inl ⟨by rfl, ?_⟩) ?_ ?_
      rotate_left
      ·intro w'
       go_simp
       with_reducible rfl
      rotate_left
      ·simp only [Act.put, sa, i64_w, i32_w]
       rfl
      refine pure_ (i := 9) (N := some 63) (v := ?_) (a' := ?_) laws_FnModulo.m10 rfl rfl (any_of HT_.out (by kernel_rfl)) (fun _ _ _ h => h) (Or.inl ⟨by rfl, ?_⟩) ?_ ?_
      rotate_left
      ·intro w'
       go_simp
       with_reducible rfl
      rotate_left
      ·simp only [Act.put, sa, i64_w, i32_w]
       rfl
      refine pure_ (i := 10) (N := some 64) (v := ?_) (a' := ?_) laws_FnModulo.m11 rfl rfl (any_of HT_.out (by kernel_rfl)) (fun _ _ _ h => h) (Or.inl ⟨by rfl, ?_⟩) ?_ ?_
      rotate_left
      ·intro w'
       go_simp
       with_reducible rfl
      rotate_left
      ·simp only [Act.put, sa, i64_w, i32_w]
       rfl
      refine pure_ (i := 11) (N := some 65) (v := ?_) (a' := ?_) laws_FnModulo.m12 rfl rfl (any_of HT_.out (by kernel_rfl)) (fun _ _ _ h => h) (Or.inl ⟨by rfl, ?_⟩) ?_ ?_
      rotate_left
      ·intro w'
       go_simp
       with_reducible rfl
      rotate_left
      ·simp only [Act.put, sa, i64_w, i32_w]
       rfl
      refine pure_ (i := 12) (N := some 66) (v := ?_) (a' := ?_) laws_FnModulo.m13 rfl rfl (any_of HT_.out (by kernel_rfl)) (fun _ _ _ h => h) (Or.inl ⟨by rfl, ?_⟩) ?_ ?_
      rotate_left
      ·intro w'
       go_simp
       with_reducible rfl
      rotate_left
      ·simp only [Act.put, sa, i64_w, i32_w]
       rfl
      refine pure_ (i := 13) (N := some 67) (v := ?_) (a' := ?_) laws_FnModulo.m14 rfl rfl (any_of HT_.out (by kernel_rfl)) (fun _ _ _ h => h) (Or.inl ⟨by rfl, ?_⟩) ?_ ?_
      rotate_left
      ·intro w'
       go_simp
       with_reducible rfl
      rotate_left
      ·simp only [Act.put, sa, i64_w, i32_w]
       rfl
      refine pure_ (i := 14) (N := some 68) (v := undef) (a' := ?_) laws_FnModulo.m15 rfl rfl (any_of HT_.out (by kernel_rfl)) (fun _ _ _ h => h) (Or.inr ⟨by rfl, rfl⟩) ?_ ?_
      rotate_left
      ·simp only [Act.put, sa, i64_w, i32_w]
       rfl
      refine pure_ (i := 15) (N := some 69) (v := undef) (a' := ?_) laws_FnModulo.m16 rfl rfl (any_of HT_.out (by kernel_rfl)) (fun _ _ _ h => h) (Or.inr ⟨by rfl, rfl⟩) ?_ ?_
      rotate_left
      ·simp only [Act.put, sa, i64_w, i32_w]
       rfl
      refine pure_ (i := 16) (N := some 70) (v := undef) (a' := ?_) laws_FnModulo.m17 rfl rfl (any_of HT_.out (by kernel_rfl)) (fun _ _ _ h => h) (Or.inr ⟨by rfl, rfl⟩) ?_ ?_
      rotate_left
      ·simp only [Act.put, sa, i64_w, i32_w]
       rfl
      refine pure_ (i := 17) (N := some 71) (v := ?_) (a' := ?_) laws_FnModulo.m18 rfl rfl (any_of HT_.out (by kernel_rfl)) (fun _ _ _ h => h) (Or.inl ⟨by rfl, ?_⟩) ?_ ?_
      rotate_left
      ·intro w'
       go_simp
       with_reducible rfl
      rotate_left
      ·simp only [Act.put, sa, i64_w, i32_w]
       rfl
      refine pure_ (i := 18) (N := some 72) (v := ?_) (a' := ?_) laws_FnModulo.m19 rfl rfl (any_of HT_.out (by kernel_rfl)) (fun _ _ _ h => h) (Or.inl ⟨by rfl, ?_⟩) ?_ ?_
      rotate_left
      ·intro w'
       go_simp
       with_reducible rfl
      rotate_left
      ·simp only [Act.put, sa, i64_w, i32_w]
       rfl
      refine pure_ (i := 19) (N := some 73) (v := undef) (a' := ?_) laws_FnModulo.m20 rfl rfl (any_of HT_.out (by kernel_rfl)) (fun _ _ _ h => h) (Or.inr ⟨by rfl, rfl⟩) ?_ ?_
      rotate_left
      ·simp only [Act.put, sa, i64_w, i32_w]
       rfl
      refine pure_ (i := 20) (N := some 74) (v := undef) (a' := ?_) laws_FnModulo.m21 rfl rfl (any_of HT_.out (by kernel_rfl)) (fun _ _ _ h => h) (Or.inr ⟨by rfl, rfl⟩) ?_ ?_
      rotate_left
      ·simp only [Act.put, sa, i64_w, i32_w]
       rfl
      refine pure_ (i := 21) (N := some 75) (v := undef) (a' := ?_) laws_FnModulo.m22 rfl rfl (any_of HT_.out (by kernel_rfl)) (fun _ _ _ h => h) (Or.inr ⟨by rfl, rfl⟩) ?_ ?_
      rotate_left
      ·simp only [Act.put, sa, i64_w, i32_w]
       rfl
      refine pure_ (i := 22) (N := some 76) (v := undef) (a' := ?_) laws_FnModulo.m23 rfl rfl (any_of HT_.out (by kernel_rfl)) (fun _ _ _ h => h) (Or.inr ⟨by rfl, rfl⟩) ?_ ?_
      rotate_left
      ·simp only [Act.put, sa, i64_w, i32_w]
       rfl
      refine pure_ (i := 23) (N := some 77) (v := undef) (a' := ?_) laws_FnModulo.m24 rfl rfl (any_of HT_.out (by kernel_rfl)) (fun _ _ _ h => h) (Or.inr ⟨by rfl, rfl⟩) ?_ ?_
      rotate_left
      ·simp only [Act.put, sa, i64_w, i32_w]
       rfl
      refine pure_ (i := 24) (N := some 78) (v := ?_) (a' := ?_) laws_FnModulo.m25 rfl rfl (any_of HT_.out (by kernel_rfl)) (fun _ _ _ h => h) (Or.inl ⟨by rfl, ?_⟩) ?_ ?_
      rotate_left
      ·intro w'
       go_simp
       with_reducible rfl
      rotate_left
      ·simp only [Act.put, sa, i64_w, i32_w]
       rfl
      refine done_ (done_of HT_.out (by kernel_rfl)) ?_
      try go_wp2
      go_meet
      case rel => exact ⟨_, (true), (by first | rfl | (simp; done) | (simp [*]; done)), H', ⟨by first | omega | exact Nat.le_refl _⟩, ⟨by (with_reducible repeat (first | refine k2 ?_ _ | refine k3 ?_ | refine k1 ?_ _)); exact BK434.out⟩, ⟨by (with_reducible repeat (first | refine k2 ?_ _ | refine k3 ?_ | refine k1 ?_ _)); exact BK435.out⟩, ⟨by (with_reducible repeat (first | refine k2 ?_ _ | refine k3 ?_ | refine k1 ?_ _)); exact BK439.out⟩, ⟨by (with_reducible repeat (first | refine k2 ?_ _ | refine k3 ?_ | refine k1 ?_ _)); exact BK443.out⟩, ⟨by (with_reducible repeat (first | refine k2 ?_ _ | refine k3 ?_ | refine k1 ?_ _)); exact BK450.out⟩, ⟨by repeat (first | (with_reducible first | exact HB.out | apply b1 | apply b2 | apply b3 | refine b4 ?_ GE434.out | refine b4 ?_ GE435.out | refine b4 ?_ GE439.out | refine b4 ?_ GE443.out | refine b4 ?_ GE450.out) | exact HB.out)⟩⟩
   ·rw [if_neg c41] at H
    have c41b0 : (t438 == t442) = false := beq_eq_false_iff_ne.mpr c41
    have c41b1 : (t438 != t442) = true := bne_iff_ne.mpr c41
    (first | rw [c41b0] | (simp only [i64_w, i32_w]; rw [c41b0]) | skip)
    have H' := am H
    clear H
    try go_wp2
    have n0_ := am (Kd.R_drew HO446.out)
    have n1_ := am (k3 BK434.out)
    have n2_ := am (k3 BK435.out)
    have n3_ := am (k3 BK439.out)
    have n4_ := am (k3 BK443.out)
    have n5_ := am (k3 BK450.out)
    have n6_ := am (b3 HB.out)
    clear HO446
    clear BK434
    clear BK435
    clear BK439
    clear BK443
    clear BK450
    clear HB
    have HO446 := n0_
    have BK434 := n1_
    have BK435 := n2_
    have BK439 := n3_
    have BK443 := n4_
    have BK450 := n5_
    have HB := n6_
    clear n0_ n1_ n2_ n3_ n4_ n5_ n6_
    refine start_ (n := 25) (S := fun w' => True) (ds := []) laws_FnModulo.m0 (by kernel_rfl) rfl rfl trivial (fun hHeld => ?_); refine with_tabW laws_FnModulo.tab9 laws_FnModulo.bits9 (fun HT_ HW_ => ?_)
    generalize w40.drew = w53 at HO446 BK434 BK435 BK439 BK443 BK450 HB hHeld ⊢
    refine pure_ (i := 0) (N := some 54) (v := ?_) (a' := ?_) laws_FnModulo.m1 rfl rfl (any_of HT_.out (by kernel_rfl)) (fun _ _ _ h => h) (Or.inl ⟨by rfl, ?_⟩) ?_ ?_
    rotate_left
    ·intro w'
     go_simp
     with_reducible rfl
    rotate_left
    ·simp only [Act.put, sa, i64_w, i32_w]
     rfl
    refine pure_ (i := 1) (N := some 55) (v := ?_) (a' := ?_) laws_FnModulo.m2 rfl rfl (any_of HT_.out (by kernel_rfl)) (fun _ _ _ h => h) (Or.inl ⟨by rfl, ?_⟩) ?_ ?_
    rotate_left
    ·intro w'
     go_simp
     with_reducible rfl
    rotate_left
    ·simp only [Act.put, sa, i64_w, i32_w]
     rfl
    refine pure_ (i := 2) (N := some 56) (v := ?_) (a' := ?_) laws_FnModulo.m3 rfl rfl (any_of HT_.out (by kernel_rfl)) (fun _ _ _ h => h) (Or.inl ⟨by rfl, ?_⟩) ?_ ?_
    rotate_left
    ·intro w'
     go_simp
     with_reducible rfl
    rotate_left
    ·simp only [Act.put, sa, i64_w, i32_w]
     rfl
    refine pure_ (i := 3) (N := some 57) (v := ?_) (a' := ?_) laws_FnModulo.m4 rfl rfl (any_of HT_.out (by kernel_rfl)) (fun _ _ _ h => h) (Or.inl ⟨by rfl, ?_⟩) ?_ ?_
    rotate_left
    ·intro w'
     go_simp
     with_reducible rfl
    rotate_left
    ·simp only [Act.put, sa, i64_w, i32_w]
     rfl
    refine pure_ (i := 4) (N := some 58) (v := undef) (a' := ?_) laws_FnModulo.m5 rfl rfl (any_of HT_.out (by kernel_rfl)) (fun _ _ _ h => h) (Or.inr ⟨by rfl, rfl⟩) ?_ ?_
    rotate_left
    ·simp only [Act.put, sa, i64_w, i32_w]
     rfl
    refine pure_ (i := 5) (N := some 59) (v := undef) (a' := ?_) laws_FnModulo.m6 rfl rfl (any_of HT_.out (by kernel_rfl)) (fun _ _ _ h => h) (Or.inr ⟨by rfl, rfl⟩) ?_ ?_
    rotate_left
    ·simp only [Act.put, sa, i64_w, i32_w]
     rfl
    refine pure_ (i := 6) (N := some 60) (v := undef) (a' := ?_) laws_FnModulo.m7 rfl rfl (any_of HT_.out (by kernel_rfl)) (fun _ _ _ h => h) (Or.inr ⟨by rfl, rfl⟩) ?_ ?_
    rotate_left
    ·simp only [Act.put, sa, i64_w, i32_w]
     rfl
    refine pure_ (i := 7) (N := some 61) (v := ?_) (a' := ?_) laws_FnModulo.m8 rfl rfl (any_of HT_.out (by kernel_rfl)) (fun _ _ _ h => h) (Or.inl ⟨by rfl, ?_⟩) ?_ ?_
    rotate_left
    ·intro w'
     go_simp
     with_reducible rfl
    rotate_left
    ·simp only [Act.put, sa, i64_w, i32_w]
     rfl
    refine pure_ (i := 8) (N := some 62) (v := ?_) (a' := ?_) laws_FnModulo.m9 rfl rfl (any_of HT_.out (by kernel_rfl)) (fun _ _ _ h => h) (Or.inl ⟨by rfl, ?_⟩) ?_ ?_
    rotate_left
    ·intro w'
     go_simp
     with_reducible rfl
    rotate_left
    ·simp only [Act.put, sa, i64_w, i32_w]
     rfl
    refine pure_ (i := 9) (N := some 63) (v := undef) (a' := ?_) laws_FnModulo.m10 rfl rfl (any_of HT_.out (by kernel_rfl)) (fun _ _ _ h => h) (Or.inr ⟨by rfl, rfl⟩) ?_ ?_
    rotate_left
    ·simp only [Act.put, sa, i64_w, i32_w]
     rfl
    refine pure_ (i := 10) (N := some 64) (v := undef) (a' := ?_) laws_FnModulo.m11 rfl rfl (any_of HT_.out (by kernel_rfl)) (fun _ _ _ h => h) (Or.inr ⟨by rfl, rfl⟩) ?_ ?_
    rotate_left
    ·simp only [Act.put, sa, i64_w, i32_w]
     rfl
    refine pure_ (i := 11) (N := some 65) (v := undef) (a' := ?_) laws_FnModulo.m12 rfl rfl (any_of HT_.out (by kernel_rfl)) (fun _ _ _ h => h) (Or.inr ⟨by rfl, rfl⟩) ?_ ?_
    rotate_left
    ·simp only [Act.put, sa, i64_w, i32_w]
     rfl
    refine pure_ (i := 12) (N := some 66) (v := ?_) (a' := ?_) laws_FnModulo.m13 rfl rfl (any_of HT_.out (by kernel_rfl)) (fun _ _ _ h => h) (Or.inl ⟨by rfl, ?_⟩) ?_ ?_
    rotate_left
    ·intro w'
     go_simp
     with_reducible rfl
    rotate_left
    ·simp only [Act.put, sa, i64_w, i32_w]
     rfl
    refine pure_ (i := 13) (N := some 67) (v := ?_) (a' := ?_) laws_FnModulo.m14 rfl rfl (any_of HT_.out (by kernel_rfl)) (fun _ _ _ h => h) (Or.inl ⟨by rfl, ?_⟩) ?_ ?_
    rotate_left
    ·intro w'
     go_simp
     with_reducible rfl
    rotate_left
    ·simp only [Act.put, sa, i64_w, i32_w]
     rfl
    refine pure_ (i := 14) (N := some 68) (v := undef) (a' := ?_) laws_FnModulo.m15 rfl rfl (any_of HT_.out (by kernel_rfl)) (fun _ _ _ h => h) (Or.inr ⟨by rfl, rfl⟩) ?_ ?_
    rotate_left
    ·simp only [Act.put, sa, i64_w, i32_w]
     rfl
    refine pure_ (i := 15) (N := some 69) (v := undef) (a' := ?_) laws_FnModulo.m16 rfl rfl (any_of HT_.out (by kernel_rfl)) (fun _ _ _ h => h) (Or.inr ⟨by rfl, rfl⟩) ?_ ?_
    rotate_left
    ·simp only [Act.put, sa, i64_w, i32_w]
     rfl
    refine pure_ (i := 16) (N := some 70) (v := undef) (a' := ?_) laws_FnModulo.m17 rfl rfl (any_of HT_.out (by kernel_rfl)) (fun _ _ _ h => h) (Or.inr ⟨by rfl, rfl⟩) ?_ ?_
    rotate_left
    ·simp only [Act.put, sa, i64_w, i32_w]
     rfl
    refine pure_ (i := 17) (N := some 71) (v := ?_) (a' := ?_) laws_FnModulo.m18 rfl rfl (any_of HT_.out (by kernel_rfl)) (fun _ _ _ h => h) (Or.inl ⟨by rfl, ?_⟩) ?_ ?_
    rotate_left
    ·intro w'
     go_simp
     with_reducible rfl
    rotate_left
    ·simp only [Act.put, sa, i64_w, i32_w]
     rfl
    refine pure_ (i := 18) (N := some 72) (v := ?_) (a' := ?_) laws_FnModulo.m19 rfl rfl (any_of HT_.out (by kernel_rfl)) (fun _ _ _ h => h) (Or.inl ⟨by rfl, ?_⟩) ?_ ?_
    rotate_left
    ·intro w'
     go_simp
     with_reducible rfl
    rotate_left
    ·simp only [Act.put, sa, i64_w, i32_w]
     rfl
    refine pure_ (i := 19) (N := some 73) (v := undef) (a' := ?_) laws_FnModulo.m20 rfl rfl (any_of HT_.out (by kernel_rfl)) (fun _ _ _ h => h) (Or.inr ⟨by rfl, rfl⟩) ?_ ?_
    rotate_left
    ·simp only [Act.put, sa, i64_w, i32_w]
     rfl
    refine pure_ (i := 20) (N := some 74) (v := undef) (a' := ?_) laws_FnModulo.m21 rfl rfl (any_of HT_.out (by kernel_rfl)) (fun _ _ _ h => h) (Or.inr ⟨by rfl, rfl⟩) ?_ ?_
    rotate_left
    ·simp only [Act.put, sa, i64_w, i32_w]
     rfl
    refine pure_ (i := 21) (N := some 75) (v := undef) (a' := ?_) laws_FnModulo.m22 rfl rfl (any_of HT_.out (by kernel_rfl)) (fun _ _ _ h => h) (Or.inr ⟨by rfl, rfl⟩) ?_ ?_
    rotate_left
    ·simp only [Act.put, sa, i64_w, i32_w]
     rfl
    refine pure_ (i := 22) (N := some 76) (v := undef) (a' := ?_) laws_FnModulo.m23 rfl rfl (any_of HT_.out (by kernel_rfl)) (fun _ _ _ h => h) (Or.inr ⟨by rfl, rfl⟩) ?_ ?_
    rotate_left
    ·simp only [Act.put, sa, i64_w, i32_w]
     rfl
    refine pure_ (i := 23) (N := some 77) (v := undef) (a' := ?_) laws_FnModulo.m24 rfl rfl (any_of HT_.out (by kernel_rfl)) (fun _ _ _ h => h) (Or.inr ⟨by rfl, rfl⟩) ?_ ?_
    rotate_left
    ·simp only [Act.put, sa, i64_w, i32_w]
     rfl
    refine pure_ (i := 24) (N := some 78) (v := ?_) (a' := ?_) laws_FnModulo.m25 rfl rfl (any_of HT_.out (by kernel_rfl)) (fun _ _ _ h => h) (Or.inl ⟨by rfl, ?_⟩) ?_ ?_
    rotate_left
    ·intro w'
     go_simp
     with_reducible rfl
    rotate_left
    ·simp only [Act.put, sa, i64_w, i32_w]
     rfl
    refine done_ (done_of HT_.out (by kernel_rfl)) ?_
    try go_wp2
    go_meet
    case rel => exact ⟨_, (true), (by first | rfl | (simp; done) | (simp [*]; done)), H', ⟨by first | omega | exact Nat.le_refl _⟩, ⟨by (with_reducible repeat (first | refine k2 ?_ _ | refine k3 ?_ | refine k1 ?_ _)); exact BK434.out⟩, ⟨by (with_reducible repeat (first | refine k2 ?_ _ | refine k3 ?_ | refine k1 ?_ _)); exact BK435.out⟩, ⟨by (with_reducible repeat (first | refine k2 ?_ _ | refine k3 ?_ | refine k1 ?_ _)); exact BK439.out⟩, ⟨by (with_reducible repeat (first | refine k2 ?_ _ | refine k3 ?_ | refine k1 ?_ _)); exact BK443.out⟩, ⟨by (with_reducible repeat (first | refine k2 ?_ _ | refine k3 ?_ | refine k1 ?_ _)); exact BK450.out⟩, ⟨by repeat (first | (with_reducible first | exact HB.out | apply b1 | apply b2 | apply b3 | refine b4 ?_ GE434.out | refine b4 ?_ GE435.out | refine b4 ?_ GE439.out | refine b4 ?_ GE443.out | refine b4 ?_ GE450.out) | exact HB.out)⟩⟩
  case rest =>
   clear HC10
   try clear c1
   try clear c2
   try clear p2
   try clear c4
   try clear c19
   try clear c20
   try clear c41
   try clear c41b0
   try clear c41b1
   try clear c44
   try clear c44b0
   try clear c44b1
   obtain ⟨kq, x78_9, rfl, HA, HJ9, BK434, BK435, BK439, BK443, BK450, HB⟩ := hcut
   cases kq with
   | zero => exact absurd HA.out (by simp [laws_FnModulo.j0])
   | succ kj9 =>
    have H := HA.out
    clear HA
    simp only [laws_FnModulo.j0] at H
    by_cases c54 : x78_9 = true
    ·subst c54
     have H1 : (some false) = some true := by first | (rw [if_pos rfl] at H; exact H) | rfl
     clear H
     have H := H1
     clear H1
     exact absurd H (by simp)
    ·replace c54 := ef c54
     subst c54
     have H1 : (if t438 = 0 then ((impl_CellModulo.f t436 t437 t431 t432 t433).bind fun bt457 => (if t433 = 0 then (none) else (if bt457.2.2 = 0 then (if (bt457.1 == t436 && (bt457.2.1 == t437)) = true then (if (Int.tmod (wrap64 (t430 - t437)) t433) = 0 then (if t431 = 0 then (none) else (if (Int.tmod (wrap64 ((wrap64 (t429 - t436)) - (wrap64 ((wrap64 (Int.tdiv (wrap64 (t430 - t437)) t433)) * t432)))) t431) = 0 then (if t436 ≥ 0 then (if t436 < t431 then (if t437 ≥ 0 then (some (decide (t437 < t433))) else (some false)) else (some false)) else (some false)) else (some false))) else (some false)) else (some false)) else (some false)))) else (some true)) = some true := by first | (rw [if_neg (show ¬ (false = true) by decide)] at H; exact H) | rfl
     clear H
     have H := H1
     clear H1
     by_cases c55 : t438 = 0
     ·rw [if_pos c55] at H
      have c55b0 : (t438 == 0) = true := beq_iff_eq.mpr c55
      have c55b1 : (t438 != 0) = false := bne_eq_false_iff_eq.mpr c55
      clear c55
      replace H := ob H
      obtain ⟨⟨t457, t458, t459⟩, A560, H⟩ := H
      replace H : (if t433 = 0 then (none) else (if t459 = 0 then (if (t457 == t436 && (t458 == t437)) = true then (if (Int.tmod (wrap64 (t430 - t437)) t433) = 0 then (if t431 = 0 then (none) else (if (Int.tmod (wrap64 ((wrap64 (t429 - t436)) - (wrap64 ((wrap64 (Int.tdiv (wrap64 (t430 - t437)) t433)) * t432)))) t431) = 0 then (if t436 ≥ 0 then (if t436 < t431 then (if t437 ≥ 0 then (some (decide (t437 < t433))) else (some false)) else (some false)) else (some false)) else (some false))) else (some false)) else (some false)) else (some false))) = some true := H
      have A56 := am A560
      clear A560
      by_cases c57 : t433 = 0
      ·rw [if_pos c57] at H
       exact absurd H (by simp)
      ·rw [if_neg c57] at H
       have c57b0 : (t433 == 0) = false := beq_eq_false_iff_ne.mpr c57
       have c57b1 : (t433 != 0) = true := bne_iff_ne.mpr c57
       by_cases c58 : t459 = 0
       ·rw [if_pos c58] at H
        have c58b0 : (t459 == 0) = true := beq_iff_eq.mpr c58
        have c58b1 : (t459 != 0) = false := bne_eq_false_iff_eq.mpr c58
        clear c58
        by_cases c59 : (t457 == t436 && (t458 == t437)) = true
        ·rw [if_pos c59] at H
         have c59b0 : (t457 == t436 && (t458 == t437)) = true := c59
         (try (have c59b1 : decide (t457 = t436 && (t458 == t437)) = true := by simpa using c59))
         (try (have c59b2 : (t457 == t436 && (t458 == t437)) = true := by simpa using c59))
         clear c59
         by_cases c60 : (Int.tmod (wrap64 (t430 - t437)) t433) = 0
         ·rw [if_pos c60] at H
          have c60b0 : ((Int.tmod (wrap64 (t430 - t437)) t433) == 0) = true := beq_iff_eq.mpr c60
          have c60b1 : ((Int.tmod (wrap64 (t430 - t437)) t433) != 0) = false := bne_eq_false_iff_eq.mpr c60
          clear c60
          by_cases c61 : t431 = 0
          ·rw [if_pos c61] at H
           exact absurd H (by simp)
          ·rw [if_neg c61] at H
           have c61b0 : (t431 == 0) = false := beq_eq_false_iff_ne.mpr c61
           have c61b1 : (t431 != 0) = true := bne_iff_ne.mpr c61
           by_cases c62 : (Int.tmod (wrap64 ((wrap64 (t429 - t436)) - (wrap64 ((wrap64 (Int.tdiv (wrap64 (t430 - t437)) t433)) * t432)))) t431) = 0
           ·rw [if_pos c62] at H
            have c62b0 : ((Int.tmod (wrap64 ((wrap64 (t429 - t436)) - (wrap64 ((wrap64 (Int.tdiv (wrap64 (t430 - t437)) t433)) * t432)))) t431) == 0) = true := beq_iff_eq.mpr c62
            have c62b1 : ((Int.tmod (wrap64 ((wrap64 (t429 - t436)) - (wrap64 ((wrap64 (Int.tdiv (wrap64 (t430 - t437)) t433)) * t432)))) t431) != 0) = false := bne_eq_false_iff_eq.mpr c62
            clear c62
            by_cases c63 : t436 ≥ 0
            ·rw [if_pos c63] at H
             have c63b0 : decide (0 ≤ t436) = true := decide_eq_true c63
             clear c63
             by_cases c64 : t436 < t431
             ·rw [if_pos c64] at H
              have c64b0 : decide (t436 < t431) = true := decide_eq_true c64
              clear c64
              by_cases c65 : t437 ≥ 0
              ·rw [if_pos c65] at H
               have c65b0 : decide (0 ≤ t437) = true := decide_eq_true c65
               clear c65
               first | obtain rfl := oi H | (have HR := oi H; clear H)
               have hnb66 := NB439_434.out
               have hnc66 := NB434_439.out
               have hnb67 := NB439_435.out
               have hnc67 := NB435_439.out
               have hnb68 := NB439_443.out
               have hnc68 := NB443_439.out
               have hnb69 := NB439_450.out
               have hnc69 := NB450_439.out
               have hcz70_0 : wc.cell? ⟨gb439, 0, none⟩ = some (.int .i64 t436) := (kc BK439.out 0).trans rfl
               have hcz70_1 : wc.cell? ⟨gb439, 1, none⟩ = some (.int .i64 t437) := (kc BK439.out 1).trans rfl
               have hfz70_0 := kf BK439.out 0
               have hfz70_1 := kf BK439.out 1
               have hnb71 := NB435_434.out
               have hnc71 := NB434_435.out
               have hnb72 := NB435_443.out
               have hnc72 := NB443_435.out
               have hnb73 := NB435_450.out
               have hnc73 := NB450_435.out
               have hcz74_0 : wc.cell? ⟨gb435, 0, none⟩ = some (.int .i64 t431) := (kc BK435.out 0).trans rfl
               have hcz74_1 : wc.cell? ⟨gb435, 1, none⟩ = some (.int .i64 t432) := (kc BK435.out 1).trans rfl
               have hcz74_2 : wc.cell? ⟨gb435, 2, none⟩ = some (.int .i64 t433) := (kc BK435.out 2).trans rfl
               have hfz74_0 := kf BK435.out 0
               have hfz74_1 := kf BK435.out 1
               have hfz74_2 := kf BK435.out 2
               go_wp2_with (first | ((with_reducible refine gate_callee (f := 14) rfl ?_); refine goesL_ (some 84) rfl rfl Try.func14 (by kernel_rfl) rfl #[.agg #[.int .i64 t436, .int .i64 t437], .agg #[.int .i64 t431, .int .i64 t432, .int .i64 t433]] rfl (by (try simp only [List.map_toArray, List.map_cons, List.map_nil]); first | done | rfl | (simp only [List.length_drop, List.length_take]; rfl)) ?_; (with_reducible refine (impl_CellModulo.calls t436 t437 t431 t432 t433 t457 t458 t459 _ A56.out).mono ?_); rintro e w75 ⟨rfl, hb⟩; refine ⟨_, rfl, ?_⟩; have n0_ := am (k4 (g := gb434) (o := .cells #[.int .i64 t429, .int .i64 t430] 37 (0, 0)) (by (with_reducible repeat (first | refine k2 ?_ _ | refine k3 ?_ | refine k1 ?_ _)); exact BK434.out) hb); have n1_ := am (k4 (g := gb435) (o := .cells #[.int .i64 t431, .int .i64 t432, .int .i64 t433] 30 (0, 0)) (by (with_reducible repeat (first | refine k2 ?_ _ | refine k3 ?_ | refine k1 ?_ _)); exact BK435.out) hb); have n2_ := am (k4 (g := gb439) (o := .cells #[.int .i64 t436, .int .i64 t437] 37 (0, 0)) (by (with_reducible repeat (first | refine k2 ?_ _ | refine k3 ?_ | refine k1 ?_ _)); exact BK439.out) hb); have n3_ := am (k4 (g := gb443) (o := .cells #[.int .i64 t440, .int .i64 t441] 37 (0, 0)) (by (with_reducible repeat (first | refine k2 ?_ _ | refine k3 ?_ | refine k1 ?_ _)); exact BK443.out) hb); have n4_ := am (k4 (g := gb450) (o := .cells #[.int .i64 t447, .int .i64 t448, .int .i64 t449] 30 (0, 0)) (by (with_reducible repeat (first | refine k2 ?_ _ | refine k3 ?_ | refine k1 ?_ _)); exact BK450.out) hb); have n5_ := am (b6 (by repeat (first | (with_reducible first | exact HB.out | apply b1 | apply b2 | apply b3 | refine b4 ?_ GE434.out | refine b4 ?_ GE435.out | refine b4 ?_ GE439.out | refine b4 ?_ GE443.out | refine b4 ?_ GE450.out) | exact HB.out)) hb); clear BK434; clear BK435; clear BK439; clear BK443; clear BK450; clear HB; have BK434 := n0_; have BK435 := n1_; have BK439 := n2_; have BK443 := n3_; have BK450 := n4_; have HB := n5_; clear n0_ n1_ n2_ n3_ n4_ n5_; (try clear hb); (try clear hb2); (try clear hk); (try clear hi)) | ((with_reducible refine gate_dst (N := 15) rfl ?_); refine box_event ?hg (N := 15) ?hd (cs := #[.int .i64 0, .int .i64 0]) (t := 37) ?hr ?_; (case hd => rfl); (case hg => rfl); (case hr => first | (go_simp; done) | (go_simp; rfl)); intro gb460 hg w76 hbox hb; have n0_ := am (k4 (g := gb434) (o := .cells #[.int .i64 t429, .int .i64 t430] 37 (0, 0)) (by (with_reducible repeat (first | refine k2 ?_ _ | refine k3 ?_ | refine k1 ?_ _)); exact BK434.out) hb); have n1_ := am (k4 (g := gb435) (o := .cells #[.int .i64 t431, .int .i64 t432, .int .i64 t433] 30 (0, 0)) (by (with_reducible repeat (first | refine k2 ?_ _ | refine k3 ?_ | refine k1 ?_ _)); exact BK435.out) hb); have n2_ := am (k4 (g := gb439) (o := .cells #[.int .i64 t436, .int .i64 t437] 37 (0, 0)) (by (with_reducible repeat (first | refine k2 ?_ _ | refine k3 ?_ | refine k1 ?_ _)); exact BK439.out) hb); have n3_ := am (k4 (g := gb443) (o := .cells #[.int .i64 t440, .int .i64 t441] 37 (0, 0)) (by (with_reducible repeat (first | refine k2 ?_ _ | refine k3 ?_ | refine k1 ?_ _)); exact BK443.out) hb); have n4_ := am (k4 (g := gb450) (o := .cells #[.int .i64 t447, .int .i64 t448, .int .i64 t449] 30 (0, 0)) (by (with_reducible repeat (first | refine k2 ?_ _ | refine k3 ?_ | refine k1 ?_ _)); exact BK450.out) hb); have n5_ := am (b6 (by repeat (first | (with_reducible first | exact HB.out | apply b1 | apply b2 | apply b3 | refine b4 ?_ GE434.out | refine b4 ?_ GE435.out | refine b4 ?_ GE439.out | refine b4 ?_ GE443.out | refine b4 ?_ GE450.out) | exact HB.out)) hb); have n6_ := am (hbox); have n7_ := am ((by rw [hg]; exact (b5 (by repeat (first | (with_reducible first | exact HB.out | apply b1 | apply b2 | apply b3 | refine b4 ?_ GE434.out | refine b4 ?_ GE435.out | refine b4 ?_ GE439.out | refine b4 ?_ GE443.out | refine b4 ?_ GE450.out) | exact HB.out))) : w.heap.size ≤ gb460)); have n8_ := n7_; have n9_ := am ((by rw [hg]; exact nl (k5 (g := gb434) (o := .cells #[.int .i64 t429, .int .i64 t430] 37 (0, 0)) (by (with_reducible repeat (first | refine k2 ?_ _ | refine k3 ?_ | refine k1 ?_ _)); exact BK434.out)) : gb434 ≠ gb460)); have n10_ := am ((by rw [hg]; exact ng (k5 (g := gb434) (o := .cells #[.int .i64 t429, .int .i64 t430] 37 (0, 0)) (by (with_reducible repeat (first | refine k2 ?_ _ | refine k3 ?_ | refine k1 ?_ _)); exact BK434.out)) : gb460 ≠ gb434)); have n11_ := am ((by rw [hg]; exact nl (k5 (g := gb435) (o := .cells #[.int .i64 t431, .int .i64 t432, .int .i64 t433] 30 (0, 0)) (by (with_reducible repeat (first | refine k2 ?_ _ | refine k3 ?_ | refine k1 ?_ _)); exact BK435.out)) : gb435 ≠ gb460)); have n12_ := am ((by rw [hg]; exact ng (k5 (g := gb435) (o := .cells #[.int .i64 t431, .int .i64 t432, .int .i64 t433] 30 (0, 0)) (by (with_reducible repeat (first | refine k2 ?_ _ | refine k3 ?_ | refine k1 ?_ _)); exact BK435.out)) : gb460 ≠ gb435)); have n13_ := am ((by rw [hg]; exact nl (k5 (g := gb439) (o := .cells #[.int .i64 t436, .int .i64 t437] 37 (0, 0)) (by (with_reducible repeat (first | refine k2 ?_ _ | refine k3 ?_ | refine k1 ?_ _)); exact BK439.out)) : gb439 ≠ gb460)); have n14_ := am ((by rw [hg]; exact ng (k5 (g := gb439) (o := .cells #[.int .i64 t436, .int .i64 t437] 37 (0, 0)) (by (with_reducible repeat (first | refine k2 ?_ _ | refine k3 ?_ | refine k1 ?_ _)); exact BK439.out)) : gb460 ≠ gb439)); have n15_ := am ((by rw [hg]; exact nl (k5 (g := gb443) (o := .cells #[.int .i64 t440, .int .i64 t441] 37 (0, 0)) (by (with_reducible repeat (first | refine k2 ?_ _ | refine k3 ?_ | refine k1 ?_ _)); exact BK443.out)) : gb443 ≠ gb460)); have n16_ := am ((by rw [hg]; exact ng (k5 (g := gb443) (o := .cells #[.int .i64 t440, .int .i64 t441] 37 (0, 0)) (by (with_reducible repeat (first | refine k2 ?_ _ | refine k3 ?_ | refine k1 ?_ _)); exact BK443.out)) : gb460 ≠ gb443)); have n17_ := am ((by rw [hg]; exact nl (k5 (g := gb450) (o := .cells #[.int .i64 t447, .int .i64 t448, .int .i64 t449] 30 (0, 0)) (by (with_reducible repeat (first | refine k2 ?_ _ | refine k3 ?_ | refine k1 ?_ _)); exact BK450.out)) : gb450 ≠ gb460)); have n18_ := am ((by rw [hg]; exact ng (k5 (g := gb450) (o := .cells #[.int .i64 t447, .int .i64 t448, .int .i64 t449] 30 (0, 0)) (by (with_reducible repeat (first | refine k2 ?_ _ | refine k3 ?_ | refine k1 ?_ _)); exact BK450.out)) : gb460 ≠ gb450)); clear BK434; clear BK435; clear BK439; clear BK443; clear BK450; clear HB; have BK434 := n0_; have BK435 := n1_; have BK439 := n2_; have BK443 := n3_; have BK450 := n4_; have HB := n5_; have BK460 := n6_; have GW460 := n7_; have GE460 := n8_; have NB434_460 := n9_; have NB460_434 := n10_; have NB435_460 := n11_; have NB460_435 := n12_; have NB439_460 := n13_; have NB460_439 := n14_; have NB443_460 := n15_; have NB460_443 := n16_; have NB450_460 := n17_; have NB460_450 := n18_; clear n0_ n1_ n2_ n3_ n4_ n5_ n6_ n7_ n8_ n9_ n10_ n11_ n12_ n13_ n14_ n15_ n16_ n17_ n18_; clear hb hbox hg; have hnb77 := NB460_434.out; have hnc77 := NB434_460.out; have hnb78 := NB460_435.out; have hnc78 := NB435_460.out; have hnb79 := NB460_439.out; have hnc79 := NB439_460.out; have hnb80 := NB460_443.out; have hnc80 := NB443_460.out; have hnb81 := NB460_450.out; have hnc81 := NB450_460.out; have hcz82_0 : w76.cell? ⟨gb460, 0, none⟩ = some (.int .i64 0) := (kc BK460.out 0).trans rfl; have hcz82_1 : w76.cell? ⟨gb460, 1, none⟩ = some (.int .i64 0) := (kc BK460.out 1).trans rfl; have hfz82_0 := kf BK460.out 0; have hfz82_1 := kf BK460.out 1; have hnb83 := NB434_443.out; have hnc83 := NB443_434.out; have hnb84 := NB434_450.out; have hnc84 := NB450_434.out; have hcz85_0 : w76.cell? ⟨gb434, 0, none⟩ = some (.int .i64 t429) := (kc BK434.out 0).trans rfl; have hcz85_1 : w76.cell? ⟨gb434, 1, none⟩ = some (.int .i64 t430) := (kc BK434.out 1).trans rfl; have hfz85_0 := kf BK434.out 0; have hfz85_1 := kf BK434.out 1; have hcz86_0 : w76.cell? ⟨gb439, 0, none⟩ = some (.int .i64 t436) := (kc BK439.out 0).trans rfl; have hcz86_1 : w76.cell? ⟨gb439, 1, none⟩ = some (.int .i64 t437) := (kc BK439.out 1).trans rfl; have hfz86_0 := kf BK439.out 0; have hfz86_1 := kf BK439.out 1; have hcz87_0 : w76.cell? ⟨gb435, 0, none⟩ = some (.int .i64 t431) := (kc BK435.out 0).trans rfl; have hcz87_1 : w76.cell? ⟨gb435, 1, none⟩ = some (.int .i64 t432) := (kc BK435.out 1).trans rfl; have hcz87_2 : w76.cell? ⟨gb435, 2, none⟩ = some (.int .i64 t433) := (kc BK435.out 2).trans rfl; have hfz87_0 := kf BK435.out 0; have hfz87_1 := kf BK435.out 1; have hfz87_2 := kf BK435.out 2))
               go_ret
               exact ⟨by first | rfl | (simp [errW_none, errW_some] <;> rfl) | (simp [*, errW_none, errW_some] <;> rfl), by repeat (first | (with_reducible first | exact HB.out | apply b1 | apply b2 | apply b3 | refine b4 ?_ GE434.out | refine b4 ?_ GE435.out | refine b4 ?_ GE439.out | refine b4 ?_ GE443.out | refine b4 ?_ GE450.out | refine b4 ?_ GE460.out) | exact HB.out)⟩
              ·rw [if_neg c65] at H
               have c65b0 : decide (0 ≤ t437) = false := decide_eq_false c65
               clear c65
               exact absurd H (by simp)
             ·rw [if_neg c64] at H
              have c64b0 : decide (t436 < t431) = false := decide_eq_false c64
              clear c64
              exact absurd H (by simp)
            ·rw [if_neg c63] at H
             have c63b0 : decide (0 ≤ t436) = false := decide_eq_false c63
             clear c63
             exact absurd H (by simp)
           ·rw [if_neg c62] at H
            have c62b0 : ((Int.tmod (wrap64 ((wrap64 (t429 - t436)) - (wrap64 ((wrap64 (Int.tdiv (wrap64 (t430 - t437)) t433)) * t432)))) t431) == 0) = false := beq_eq_false_iff_ne.mpr c62
            have c62b1 : ((Int.tmod (wrap64 ((wrap64 (t429 - t436)) - (wrap64 ((wrap64 (Int.tdiv (wrap64 (t430 - t437)) t433)) * t432)))) t431) != 0) = true := bne_iff_ne.mpr c62
            exact absurd H (by simp)
         ·rw [if_neg c60] at H
          have c60b0 : ((Int.tmod (wrap64 (t430 - t437)) t433) == 0) = false := beq_eq_false_iff_ne.mpr c60
          have c60b1 : ((Int.tmod (wrap64 (t430 - t437)) t433) != 0) = true := bne_iff_ne.mpr c60
          exact absurd H (by simp)
        ·rw [if_neg c59] at H
         have c59b0 : (t457 == t436 && (t458 == t437)) = false := by simpa using c59
         (try (have c59b1 : decide (t457 = t436 && (t458 == t437)) = false := by simpa using c59))
         (try (have c59b2 : (t457 == t436 && (t458 == t437)) = false := by simpa using c59))
         (try (have c59b3 : ¬ (t457 = t436 && (t458 == t437)) := by simpa using c59))
         clear c59
         exact absurd H (by simp)
       ·rw [if_neg c58] at H
        have c58b0 : (t459 == 0) = false := beq_eq_false_iff_ne.mpr c58
        have c58b1 : (t459 != 0) = true := bne_iff_ne.mpr c58
        exact absurd H (by simp)
     ·rw [if_neg c55] at H
      have c55b0 : (t438 == 0) = false := beq_eq_false_iff_ne.mpr c55
      have c55b1 : (t438 != 0) = true := bne_iff_ne.mpr c55
      clear H
      go_wp2
      go_ret
      exact ⟨by first | rfl | (simp [errW_none, errW_some] <;> rfl) | (simp [*, errW_none, errW_some] <;> rfl), by repeat (first | (with_reducible first | exact HB.out | apply b1 | apply b2 | apply b3 | refine b4 ?_ GE434.out | refine b4 ?_ GE435.out | refine b4 ?_ GE439.out | refine b4 ?_ GE443.out | refine b4 ?_ GE450.out) | exact HB.out)⟩

end Go.Proofs.Ytcgnnfaemjjljaa.Q
