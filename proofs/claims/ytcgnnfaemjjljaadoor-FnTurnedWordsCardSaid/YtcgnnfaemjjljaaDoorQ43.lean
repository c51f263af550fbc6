/- Written by a program of this session (wip/tools/pp.py) out of the translation, with the kit's printer. -/
import Derived.Test.YtcgnnfaemjjljaaDoorQ0
import Derived.Test.YtcgnnfaemjjljaaDoorQ2
import Derived.Test.YtcgnnfaemjjljaaDoorQ6
import Derived.Test.YtcgnnfaemjjljaaDoorQ8
import Derived.Test.YtcgnnfaemjjljaaDoorQ10
import Derived.Test.YtcgnnfaemjjljaaDoorQ14
import Derived.Test.YtcgnnfaemjjljaaDoorQ26
import Derived.Test.YtcgnnfaemjjljaaDoorQ42
namespace Go.Proofs.YtcgnnfaemjjljaaDoor.Q
open Go.RowKit Go.Proofs.YtcgnnfaemjjljaaDoorW.PrintWords Go.Proofs.YtcgnnfaemjjljaaDoorW.PrintLast Go.Proofs.YtcgnnfaemjjljaaDoorW.PrintMore
attribute [local go_sem] max2_int min2_int max_two min_two max_three min_three max_four min_four
set_option linter.unusedVariables false
set_option linter.unusedSimpArgs false

/-! ### laws_FnTurnedWords: function 9 -/
mutual
def laws_FnTurnedWords.j0 : Nat → ByteArray → Int → ByteArray → Int → ByteArray → ByteArray → Int → Bool → Option (Bool)
 | 0, _, _, _, _, _, _, _, _ => none
 | k + 1, x3, x4, x5, x6, x9, x10, x11, x66 => if x66 = true then (some false) else (if x11 = 0 then ((impl_BackWord.f x10).bind fun bt471 => (if bt471.2 = 0 then (if bt471.1.toList = x9.toList then (laws_FnTurnedWords.j1 k x3 x4 x5 x6) else (some false)) else (some false))) else (laws_FnTurnedWords.j1 k x3 x4 x5 x6))
def laws_FnTurnedWords.j1 : Nat → ByteArray → Int → ByteArray → Int → Option (Bool)
 | 0, _, _, _, _ => none
 | k + 1, x3, x4, x5, x6 => if x6 = 0 then ((impl_TurnWord.f x5 (Int.tmod (wrap64 (4 - x4)) 4)).bind fun bt473 => (if bt473.2 = 0 then (if bt473.1.toList = x3.toList then ((impl_IsClosed.f x5).bind fun t475 => ((impl_IsClosed.f x3).bind fun t476 => (some (t475 == t476)))) else (some false)) else (some false))) else (some true)
end
def laws_FnTurnedWords.f (k : Nat) (l0 : List Int) : Option (Bool) := (laws_big.f l0).bind fun t459 => (if t459 = true then (some true) else ((spec_DrawTurnWord.f k l0).bind fun bt460 => ((impl_TurnWord.f bt460.1 bt460.2).bind fun bt462 => ((spec_TurnWord.f k bt460.1 bt460.2).bind fun bt464 => ((spec_DrawBackWord.f k l0).bind fun t466 => ((impl_BackWord.f t466).bind fun bt467 => ((spec_BackWord.f k t466).bind fun bt469 => (if bt462.2 = bt464.2 then (if bt462.1.toList = bt464.1.toList then (if bt467.2 = bt469.2 then (laws_FnTurnedWords.j0 k bt460.1 bt460.2 bt462.1 bt462.2 t466 bt467.1 bt467.2 (bt467.1.toList != bt469.1.toList)) else (laws_FnTurnedWords.j0 k bt460.1 bt460.2 bt462.1 bt462.2 t466 bt467.1 bt467.2 true)) else (laws_FnTurnedWords.j0 k bt460.1 bt460.2 bt462.1 bt462.2 t466 bt467.1 bt467.2 true)) else (laws_FnTurnedWords.j0 k bt460.1 bt460.2 bt462.1 bt462.2 t466 bt467.1 bt467.2 true)))))))))
theorem laws_FnTurnedWords.mono_l : ∀ k, (∀ y0 y1 y2 y3 y4 y5 y6 y7, LeO (laws_FnTurnedWords.j0 k y0 y1 y2 y3 y4 y5 y6 y7) (laws_FnTurnedWords.j0 (k + 1) y0 y1 y2 y3 y4 y5 y6 y7)) ∧ (∀ y0 y1 y2 y3, LeO (laws_FnTurnedWords.j1 k y0 y1 y2 y3) (laws_FnTurnedWords.j1 (k + 1) y0 y1 y2 y3))
 | 0 => ⟨fun _ _ _ _ _ _ _ _ r h => by simp [laws_FnTurnedWords.j0] at h, fun _ _ _ _ r h => by simp [laws_FnTurnedWords.j1] at h⟩
 | k + 1 => by
  obtain ⟨ih0, ih1⟩ := laws_FnTurnedWords.mono_l k
  refine ⟨?_, ?_⟩
  ·intro y0 y1 y2 y3 y4 y5 y6 y7
   unfold laws_FnTurnedWords.j0
   repeat' first
   | (with_reducible exact ih0 _ _ _ _ _ _ _ _)
   | (with_reducible exact ih1 _ _ _ _)
   | (with_reducible exact spec_BackWord.mono _ _)
   | (with_reducible exact spec_DrawBackWord.mono _ _)
   | (with_reducible exact spec_DrawTurnWord.mono _ _)
   | (with_reducible exact spec_TurnWord.mono _ _ _)
   | (with_reducible exact LeO.refl _)
   | (with_reducible exact LeO.none _)
   | (with_reducible refine LeO.ite ?_ ?_)
   | (with_reducible refine LeO.bind ?_ (fun _ => ?_))
   | exact ih0 _ _ _ _ _ _ _ _
   | exact ih1 _ _ _ _
   | exact spec_BackWord.mono _ _
   | exact spec_DrawBackWord.mono _ _
   | exact spec_DrawTurnWord.mono _ _
   | exact spec_TurnWord.mono _ _ _
   | exact LeO.none _
   | refine LeO.ite ?_ ?_
   | refine LeO.bind ?_ (fun _ => ?_)
  ·intro y0 y1 y2 y3
   unfold laws_FnTurnedWords.j1
   repeat' first
   | (with_reducible exact ih0 _ _ _ _ _ _ _ _)
   | (with_reducible exact ih1 _ _ _ _)
   | (with_reducible exact spec_BackWord.mono _ _)
   | (with_reducible exact spec_DrawBackWord.mono _ _)
   | (with_reducible exact spec_DrawTurnWord.mono _ _)
   | (with_reducible exact spec_TurnWord.mono _ _ _)
   | (with_reducible exact LeO.refl _)
   | (with_reducible exact LeO.none _)
   | (with_reducible refine LeO.ite ?_ ?_)
   | (with_reducible refine LeO.bind ?_ (fun _ => ?_))
   | exact ih0 _ _ _ _ _ _ _ _
   | exact ih1 _ _ _ _
   | exact spec_BackWord.mono _ _
   | exact spec_DrawBackWord.mono _ _
   | exact spec_DrawTurnWord.mono _ _
   | exact spec_TurnWord.mono _ _ _
   | exact LeO.none _
   | refine LeO.ite ?_ ?_
   | refine LeO.bind ?_ (fun _ => ?_)
theorem laws_FnTurnedWords.mono : ∀ a0 k, LeO (laws_FnTurnedWords.f k a0) (laws_FnTurnedWords.f (k + 1) a0) := by
 intro a0 k
 obtain ⟨ih0, ih1⟩ := laws_FnTurnedWords.mono_l k
 unfold laws_FnTurnedWords.f
 repeat' first
   | (with_reducible exact ih0 _ _ _ _ _ _ _ _)
   | (with_reducible exact ih1 _ _ _ _)
   | (with_reducible exact spec_BackWord.mono _ _)
   | (with_reducible exact spec_DrawBackWord.mono _ _)
   | (with_reducible exact spec_DrawTurnWord.mono _ _)
   | (with_reducible exact spec_TurnWord.mono _ _ _)
   | (with_reducible exact LeO.refl _)
   | (with_reducible exact LeO.none _)
   | (with_reducible refine LeO.ite ?_ ?_)
   | (with_reducible refine LeO.bind ?_ (fun _ => ?_))
   | exact ih0 _ _ _ _ _ _ _ _
   | exact ih1 _ _ _ _
   | exact spec_BackWord.mono _ _
   | exact spec_DrawBackWord.mono _ _
   | exact spec_DrawTurnWord.mono _ _
   | exact spec_TurnWord.mono _ _ _
   | exact LeO.none _
   | refine LeO.ite ?_ ?_
   | refine LeO.bind ?_ (fun _ => ?_)
set_option maxHeartbeats 8000000 in
set_option maxRecDepth 100000 in
theorem laws_FnTurnedWords.calls (k : Nat) (A0 : Option Addr) (c0 : Nat) (l0 : List Int) (w : World) (hr0 : Kd.C (Kd.int .u8) w A0 l0.length l0) (hc0 : l0.length ≤ c0) (h : laws_FnTurnedWords.f k l0 = some true) :
  Calls Tryd.prog 9 #[.slice A0 l0.length c0] w fun e w' => e = .returned (.bool true) ∧ Below w.heap.size w w' := by
 have HR0 := am hr0
 have HC0 := am hc0
 clear hr0 hc0
 have HB := am (Below.refl w.heap.size w)
 have H : ((laws_big.f l0).bind fun t459 => (if t459 = true then (some true) else ((spec_DrawTurnWord.f k l0).bind fun bt460 => ((impl_TurnWord.f bt460.1 bt460.2).bind fun bt462 => ((spec_TurnWord.f k bt460.1 bt460.2).bind fun bt464 => ((spec_DrawBackWord.f k l0).bind fun t466 => ((impl_BackWord.f t466).bind fun bt467 => ((spec_BackWord.f k t466).bind fun bt469 => (if bt462.2 = bt464.2 then (if bt462.1.toList = bt464.1.toList then (if bt467.2 = bt469.2 then (laws_FnTurnedWords.j0 k bt460.1 bt460.2 bt462.1 bt462.2 t466 bt467.1 bt467.2 (bt467.1.toList != bt469.1.toList)) else (laws_FnTurnedWords.j0 k bt460.1 bt460.2 bt462.1 bt462.2 t466 bt467.1 bt467.2 true)) else (laws_FnTurnedWords.j0 k bt460.1 bt460.2 bt462.1 bt462.2 t466 bt467.1 bt467.2 true)) else (laws_FnTurnedWords.j0 k bt460.1 bt460.2 bt462.1 bt462.2 t466 bt467.1 bt467.2 true)))))))))) = some true := h
 clear h
 replace H := ob H
 obtain ⟨t459, A20, H⟩ := H
 replace H : (if t459 = true then (some true) else ((spec_DrawTurnWord.f k l0).bind fun bt460 => ((impl_TurnWord.f bt460.1 bt460.2).bind fun bt462 => ((spec_TurnWord.f k bt460.1 bt460.2).bind fun bt464 => ((spec_DrawBackWord.f k l0).bind fun t466 => ((impl_BackWord.f t466).bind fun bt467 => ((spec_BackWord.f k t466).bind fun bt469 => (if bt462.2 = bt464.2 then (if bt462.1.toList = bt464.1.toList then (if bt467.2 = bt469.2 then (laws_FnTurnedWords.j0 k bt460.1 bt460.2 bt462.1 bt462.2 t466 bt467.1 bt467.2 (bt467.1.toList != bt469.1.toList)) else (laws_FnTurnedWords.j0 k bt460.1 bt460.2 bt462.1 bt462.2 t466 bt467.1 bt467.2 true)) else (laws_FnTurnedWords.j0 k bt460.1 bt460.2 bt462.1 bt462.2 t466 bt467.1 bt467.2 true)) else (laws_FnTurnedWords.j0 k bt460.1 bt460.2 bt462.1 bt462.2 t466 bt467.1 bt467.2 true))))))))) = some true := H
 have A2 := am A20
 clear A20
 by_cases c3 : t459 = true
 ·subst c3
  have H1 : (some true) = some true := by first | (rw [if_pos rfl] at H; exact H) | rfl
  clear H
  have H := H1
  clear H1
  clear H
  go_enter Tryd.func9, Tryd.ntmps9
  go_wp2_with (first | ((with_reducible refine gate_callee (f := 23) rfl ?_); refine goesL_ (some 19) rfl rfl Tryd.func23 (by kernel_rfl) rfl #[.slice A0 l0.length c0] rfl (by (try simp only [List.map_toArray, List.map_cons, List.map_nil]); first | done | rfl | (simp only [List.length_drop, List.length_take]; rfl)) ?_; (with_reducible refine (laws_big.calls _ _ l0 true _ ?side1 ?side2 A2.out).mono ?_); (case side1 => repeat (first | exact HR0.out | (with_reducible refine Kd.C_alloc ?_ _) | (with_reducible refine Kd.C_drewN ?_ _) | (with_reducible refine Kd.C_drew ?_))); (case side2 => exact HC0.out); rintro e w' ⟨rfl, ⟨nd, rfl⟩⟩; refine ⟨_, rfl, ?_⟩))
  go_ret
  exact ⟨by first | rfl | (simp [errW_none, errW_some] <;> rfl) | (simp [*, errW_none, errW_some] <;> rfl), by repeat (first | (with_reducible first | exact HB.out | apply b1 | apply b2 | apply b3) | exact HB.out)⟩
 ·replace c3 := ef c3
  subst c3
  have H1 : ((spec_DrawTurnWord.f k l0).bind fun bt460 => ((impl_TurnWord.f bt460.1 bt460.2).bind fun bt462 => ((spec_TurnWord.f k bt460.1 bt460.2).bind fun bt464 => ((spec_DrawBackWord.f k l0).bind fun t466 => ((impl_BackWord.f t466).bind fun bt467 => ((spec_BackWord.f k t466).bind fun bt469 => (if bt462.2 = bt464.2 then (if bt462.1.toList = bt464.1.toList then (if bt467.2 = bt469.2 then (laws_FnTurnedWords.j0 k bt460.1 bt460.2 bt462.1 bt462.2 t466 bt467.1 bt467.2 (bt467.1.toList != bt469.1.toList)) else (laws_FnTurnedWords.j0 k bt460.1 bt460.2 bt462.1 bt462.2 t466 bt467.1 bt467.2 true)) else (laws_FnTurnedWords.j0 k bt460.1 bt460.2 bt462.1 bt462.2 t466 bt467.1 bt467.2 true)) else (laws_FnTurnedWords.j0 k bt460.1 bt460.2 bt462.1 bt462.2 t466 bt467.1 bt467.2 true)))))))) = some true := by first | (rw [if_neg (show ¬ (false = true) by decide)] at H; exact H) | rfl
  clear H
  have H := H1
  clear H1
  replace H := ob H
  obtain ⟨⟨t460, t461⟩, A40, H⟩ := H
  replace H : ((impl_TurnWord.f t460 t461).bind fun bt462 => ((spec_TurnWord.f k t460 t461).bind fun bt464 => ((spec_DrawBackWord.f k l0).bind fun t466 => ((impl_BackWord.f t466).bind fun bt467 => ((spec_BackWord.f k t466).bind fun bt469 => (if bt462.2 = bt464.2 then (if bt462.1.toList = bt464.1.toList then (if bt467.2 = bt469.2 then (laws_FnTurnedWords.j0 k t460 t461 bt462.1 bt462.2 t466 bt467.1 bt467.2 (bt467.1.toList != bt469.1.toList)) else (laws_FnTurnedWords.j0 k t460 t461 bt462.1 bt462.2 t466 bt467.1 bt467.2 true)) else (laws_FnTurnedWords.j0 k t460 t461 bt462.1 bt462.2 t466 bt467.1 bt467.2 true)) else (laws_FnTurnedWords.j0 k t460 t461 bt462.1 bt462.2 t466 bt467.1 bt467.2 true))))))) = some true := H
  have A4 := am A40
  clear A40
  replace H := ob H
  obtain ⟨⟨t462, t463⟩, A50, H⟩ := H
  replace H : ((spec_TurnWord.f k t460 t461).bind fun bt464 => ((spec_DrawBackWord.f k l0).bind fun t466 => ((impl_BackWord.f t466).bind fun bt467 => ((spec_BackWord.f k t466).bind fun bt469 => (if t463 = bt464.2 then (if t462.toList = bt464.1.toList then (if bt467.2 = bt469.2 then (laws_FnTurnedWords.j0 k t460 t461 t462 t463 t466 bt467.1 bt467.2 (bt467.1.toList != bt469.1.toList)) else (laws_FnTurnedWords.j0 k t460 t461 t462 t463 t466 bt467.1 bt467.2 true)) else (laws_FnTurnedWords.j0 k t460 t461 t462 t463 t466 bt467.1 bt467.2 true)) else (laws_FnTurnedWords.j0 k t460 t461 t462 t463 t466 bt467.1 bt467.2 true)))))) = some true := H
  have A5 := am A50
  clear A50
  replace H := ob H
  obtain ⟨⟨t464, t465⟩, A60, H⟩ := H
  replace H : ((spec_DrawBackWord.f k l0).bind fun t466 => ((impl_BackWord.f t466).bind fun bt467 => ((spec_BackWord.f k t466).bind fun bt469 => (if t463 = t465 then (if t462.toList = t464.toList then (if bt467.2 = bt469.2 then (laws_FnTurnedWords.j0 k t460 t461 t462 t463 t466 bt467.1 bt467.2 (bt467.1.toList != bt469.1.toList)) else (laws_FnTurnedWords.j0 k t460 t461 t462 t463 t466 bt467.1 bt467.2 true)) else (laws_FnTurnedWords.j0 k t460 t461 t462 t463 t466 bt467.1 bt467.2 true)) else (laws_FnTurnedWords.j0 k t460 t461 t462 t463 t466 bt467.1 bt467.2 true))))) = some true := H
  have A6 := am A60
  clear A60
  replace H := ob H
  obtain ⟨t466, A70, H⟩ := H
  replace H : ((impl_BackWord.f t466).bind fun bt467 => ((spec_BackWord.f k t466).bind fun bt469 => (if t463 = t465 then (if t462.toList = t464.toList then (if bt467.2 = bt469.2 then (laws_FnTurnedWords.j0 k t460 t461 t462 t463 t466 bt467.1 bt467.2 (bt467.1.toList != bt469.1.toList)) else (laws_FnTurnedWords.j0 k t460 t461 t462 t463 t466 bt467.1 bt467.2 true)) else (laws_FnTurnedWords.j0 k t460 t461 t462 t463 t466 bt467.1 bt467.2 true)) else (laws_FnTurnedWords.j0 k t460 t461 t462 t463 t466 bt467.1 bt467.2 true)))) = some true := H
  have A7 := am A70
  clear A70
  replace H := ob H
  obtain ⟨⟨t467, t468⟩, A80, H⟩ := H
  replace H : ((spec_BackWord.f k t466).bind fun bt469 => (if t463 = t465 then (if t462.toList = t464.toList then (if t468 = bt469.2 then (laws_FnTurnedWords.j0 k t460 t461 t462 t463 t466 t467 t468 (t467.toList != bt469.1.toList)) else (laws_FnTurnedWords.j0 k t460 t461 t462 t463 t466 t467 t468 true)) else (laws_FnTurnedWords.j0 k t460 t461 t462 t463 t466 t467 t468 true)) else (laws_FnTurnedWords.j0 k t460 t461 t462 t463 t466 t467 t468 true))) = some true := H
  have A8 := am A80
  clear A80
  replace H := ob H
  obtain ⟨⟨t469, t470⟩, A90, H⟩ := H
  replace H : (if t463 = t465 then (if t462.toList = t464.toList then (if t468 = t470 then (laws_FnTurnedWords.j0 k t460 t461 t462 t463 t466 t467 t468 (t467.toList != t469.toList)) else (laws_FnTurnedWords.j0 k t460 t461 t462 t463 t466 t467 t468 true)) else (laws_FnTurnedWords.j0 k t460 t461 t462 t463 t466 t467 t468 true)) else (laws_FnTurnedWords.j0 k t460 t461 t462 t463 t466 t467 t468 true)) = some true := H
  have A9 := am A90
  clear A90
  have HC10 := am H
  clear H
  go_enter Tryd.func9, Tryd.ntmps9
  go_upto_region 9 with (first | ((with_reducible refine gate_callee (f := 23) rfl ?_); refine goesL_ (some 19) rfl rfl Tryd.func23 (by kernel_rfl) rfl #[.slice A0 l0.length c0] rfl (by (try simp only [List.map_toArray, List.map_cons, List.map_nil]); first | done | rfl | (simp only [List.length_drop, List.length_take]; rfl)) ?_; (with_reducible refine (laws_big.calls _ _ l0 false _ ?side1 ?side2 A2.out).mono ?_); (case side1 => repeat (first | exact HR0.out | (with_reducible refine Kd.C_alloc ?_ _) | (with_reducible refine Kd.C_drewN ?_ _) | (with_reducible refine Kd.C_drew ?_))); (case side2 => exact HC0.out); rintro e w' ⟨rfl, ⟨nd, rfl⟩⟩; refine ⟨_, rfl, ?_⟩) | ((with_reducible refine gate_callee (f := 24) rfl ?_); refine goesL_ (some 22) rfl rfl Tryd.func24 (by kernel_rfl) rfl #[.slice A0 l0.length c0] rfl (by (try simp only [List.map_toArray, List.map_cons, List.map_nil]); first | done | rfl | (simp only [List.length_drop, List.length_take]; rfl)) ?_; (with_reducible refine (spec_DrawTurnWord.calls k _ _ l0 t460 t461 _ ?side1 ?side2 A4.out).mono ?_); (case side1 => repeat (first | exact HR0.out | (with_reducible refine Kd.C_alloc ?_ _) | (with_reducible refine Kd.C_drewN ?_ _) | (with_reducible refine Kd.C_drew ?_))); (case side2 => exact HC0.out); rintro e w11 ⟨rfl, hb⟩; refine ⟨_, rfl, ?_⟩; have n0_ := am (b6 (by repeat (first | (with_reducible first | exact HB.out | apply b1 | apply b2 | apply b3) | exact HB.out)) hb); clear HB; have HB := n0_; clear n0_; (try clear hb); (try clear hb2); (try clear hk); (try clear hi)) | ((with_reducible refine gate_callee (f := 12) rfl ?_); refine goesL_ (some 28) rfl rfl Tryd.func12 (by kernel_rfl) rfl #[.string t460, .int .i64 t461] rfl (by (try simp only [List.map_toArray, List.map_cons, List.map_nil]); first | done | rfl | (simp only [List.length_drop, List.length_take]; rfl)) ?_; (with_reducible refine (impl_TurnWord.calls t460 t461 t462 t463 _ A5.out).mono ?_); rintro e w12 ⟨rfl, hb⟩; refine ⟨_, rfl, ?_⟩; have n0_ := am (b6 (by repeat (first | (with_reducible first | exact HB.out | apply b1 | apply b2 | apply b3) | exact HB.out)) hb); clear HB; have HB := n0_; clear n0_; (try clear hb); (try clear hb2); (try clear hk); (try clear hi)) | ((with_reducible refine gate_callee (f := 11) rfl ?_); refine goesL_ (some 34) rfl rfl Tryd.func11 (by kernel_rfl) rfl #[.string t460, .int .i64 t461] rfl (by (try simp only [List.map_toArray, List.map_cons, List.map_nil]); first | done | rfl | (simp only [List.length_drop, List.length_take]; rfl)) ?_; (with_reducible refine (spec_TurnWord.calls k t460 t461 t464 t465 _ A6.out).mono ?_); rintro e w13 ⟨rfl, hb⟩; refine ⟨_, rfl, ?_⟩; have n0_ := am (b6 (by repeat (first | (with_reducible first | exact HB.out | apply b1 | apply b2 | apply b3) | exact HB.out)) hb); clear HB; have HB := n0_; clear n0_; (try clear hb); (try clear hb2); (try clear hk); (try clear hi)) | ((with_reducible refine gate_callee (f := 25) rfl ?_); refine goesL_ (some 38) rfl rfl Tryd.func25 (by kernel_rfl) rfl #[.slice A0 l0.length c0] rfl (by (try simp only [List.map_toArray, List.map_cons, List.map_nil]); first | done | rfl | (simp only [List.length_drop, List.length_take]; rfl)) ?_; (with_reducible refine (spec_DrawBackWord.calls k _ _ l0 t466 _ ?side1 ?side2 A7.out).mono ?_); (case side1 => repeat (first | exact (Kd.C_below HR0.out HB.out) | (with_reducible refine Kd.C_alloc ?_ _) | (with_reducible refine Kd.C_drewN ?_ _) | (with_reducible refine Kd.C_drew ?_))); (case side2 => exact HC0.out); rintro e w14 ⟨rfl, hb⟩; refine ⟨_, rfl, ?_⟩; have n0_ := am (b6 (by repeat (first | (with_reducible first | exact HB.out | apply b1 | apply b2 | apply b3) | exact HB.out)) hb); clear HB; have HB := n0_; clear n0_; (try clear hb); (try clear hb2); (try clear hk); (try clear hi)) | ((with_reducible refine gate_callee (f := 14) rfl ?_); refine goesL_ (some 41) rfl rfl Tryd.func14 (by kernel_rfl) rfl #[.string t466] rfl (by (try simp only [List.map_toArray, List.map_cons, List.map_nil]); first | done | rfl | (simp only [List.length_drop, List.length_take]; rfl)) ?_; (with_reducible refine (impl_BackWord.calls t466 t467 t468 _ A8.out).mono ?_); rintro e w15 ⟨rfl, hb⟩; refine ⟨_, rfl, ?_⟩; have n0_ := am (b6 (by repeat (first | (with_reducible first | exact HB.out | apply b1 | apply b2 | apply b3) | exact HB.out)) hb); clear HB; have HB := n0_; clear n0_; (try clear hb); (try clear hb2); (try clear hk); (try clear hi)) | ((with_reducible refine gate_callee (f := 13) rfl ?_); refine goesL_ (some 46) rfl rfl Tryd.func13 (by kernel_rfl) rfl #[.string t466] rfl (by (try simp only [List.map_toArray, List.map_cons, List.map_nil]); first | done | rfl | (simp only [List.length_drop, List.length_take]; rfl)) ?_; (with_reducible refine (spec_BackWord.calls k t466 t469 t470 _ A9.out).mono ?_); rintro e w16 ⟨rfl, hb⟩; refine ⟨_, rfl, ?_⟩; have n0_ := am (b6 (by repeat (first | (with_reducible first | exact HB.out | apply b1 | apply b2 | apply b3) | exact HB.out)) hb); clear HB; have HB := n0_; clear n0_; (try clear hb); (try clear hb2); (try clear hk); (try clear hi)))
  (try simp only [Act.put, sa])
  go_cut [66] (fun v66 wc => ∃ (kq : Nat) (x66_9 : Bool), v66 = .bool x66_9 ∧ Aside0 (laws_FnTurnedWords.j0 kq t460 t461 t462 t463 t466 t467 t468 x66_9 = some true) ∧ Aside0 (kq ≤ k) ∧ Aside0 (Below w.heap.size w wc))
  case first =>
   have H := HC10.out
   clear HC10
   by_cases c17 : t463 = t465
   ·rw [if_pos c17] at H
    have c17b0 : (t463 == t465) = true := beq_iff_eq.mpr c17
    have c17b1 : (t463 != t465) = false := bne_eq_false_iff_eq.mpr c17
    clear c17
    (first | rw [c17b0] | (simp only [i64_w, i32_w]; rw [c17b0]) | skip)
    by_cases c18 : t462.toList = t464.toList
    ·rw [if_pos c18] at H
     have c18b0 : (t462.toList == t464.toList) = true := beq_iff_eq.mpr c18
     have c18b1 : (t462.toList != t464.toList) = false := bne_eq_false_iff_eq.mpr c18
     clear c18
     by_cases c19 : t468 = t470
     ·rw [if_pos c19] at H
      have c19b0 : (t468 == t470) = true := beq_iff_eq.mpr c19
      have c19b1 : (t468 != t470) = false := bne_eq_false_iff_eq.mpr c19
      clear c19
      have H' := am H
      clear H
      go_wp2
      go_meet
      case rel => exact ⟨_, ((t467.toList != t469.toList)), (by first | rfl | (simp; done) | (simp [*]; done)), H', ⟨by first | omega | exact Nat.le_refl _⟩, ⟨by repeat (first | (with_reducible first | exact HB.out | apply b1 | apply b2 | apply b3) | exact HB.out)⟩⟩
     ·rw [if_neg c19] at H
      have c19b0 : (t468 == t470) = false := beq_eq_false_iff_ne.mpr c19
      have c19b1 : (t468 != t470) = true := bne_iff_ne.mpr c19
      have H' := am H
      clear H
      go_wp2
      go_meet
      case rel => exact ⟨_, (true), (by first | rfl | (simp; done) | (simp [*]; done)), H', ⟨by first | omega | exact Nat.le_refl _⟩, ⟨by repeat (first | (with_reducible first | exact HB.out | apply b1 | apply b2 | apply b3) | exact HB.out)⟩⟩
    ·rw [if_neg c18] at H
     have c18b0 : (t462.toList == t464.toList) = false := beq_eq_false_iff_ne.mpr c18
     have c18b1 : (t462.toList != t464.toList) = true := bne_iff_ne.mpr c18
     have H' := am H
     clear H
     go_wp2
     go_meet
     case rel => exact ⟨_, (true), (by first | rfl | (simp; done) | (simp [*]; done)), H', ⟨by first | omega | exact Nat.le_refl _⟩, ⟨by repeat (first | (with_reducible first | exact HB.out | apply b1 | apply b2 | apply b3) | exact HB.out)⟩⟩
   ·rw [if_neg c17] at H
    have c17b0 : (t463 == t465) = false := beq_eq_false_iff_ne.mpr c17
    have c17b1 : (t463 != t465) = true := bne_iff_ne.mpr c17
    (first | rw [c17b0] | (simp only [i64_w, i32_w]; rw [c17b0]) | skip)
    have H' := am H
    clear H
    go_wp2
    go_meet
    case rel => exact ⟨_, (true), (by first | rfl | (simp; done) | (simp [*]; done)), H', ⟨by first | omega | exact Nat.le_refl _⟩, ⟨by repeat (first | (with_reducible first | exact HB.out | apply b1 | apply b2 | apply b3) | exact HB.out)⟩⟩
  case rest =>
   clear HC10
   try clear c1
   try clear c2
   try clear p2
   try clear c3
   try clear c9
   try clear c11
   try clear c12
   try clear c13
   try clear c14
   try clear c17
   try clear c17b0
   try clear c17b1
   try clear c18
   try clear c18b0
   try clear c18b1
   try clear c19
   try clear c19b0
   try clear c19b1
   obtain ⟨kq, x66_9, rfl, HA, HJ9, HB⟩ := hcut
   cases kq with
   | zero => exact absurd HA.out (by simp [laws_FnTurnedWords.j0])
   | succ kj9 =>
    have H := HA.out
    clear HA
    simp only [laws_FnTurnedWords.j0] at H
    by_cases c20 : x66_9 = true
    ·subst c20
     have H1 : (some false) = some true := by first | (rw [if_pos rfl] at H; exact H) | rfl
     clear H
     have H := H1
     clear H1
     exact absurd H (by simp)
    ·replace c20 := ef c20
     subst c20
     have H1 : (if t468 = 0 then ((impl_BackWord.f t467).bind fun bt471 => (if bt471.2 = 0 then (if bt471.1.toList = t466.toList then (laws_FnTurnedWords.j1 kj9 t460 t461 t462 t463) else (some false)) else (some false))) else (laws_FnTurnedWords.j1 kj9 t460 t461 t462 t463)) = some true := by first | (rw [if_neg (show ¬ (false = true) by decide)] at H; exact H) | rfl
     clear H
     have H := H1
     clear H1
     have HC21 := am H
     clear H
     go_upto_if 68 with (fail)
     go_cut [] (fun wc => ∃ (kq : Nat), Aside0 (laws_FnTurnedWords.j1 kq t460 t461 t462 t463 = some true) ∧ Aside0 (kq ≤ kj9) ∧ Aside0 (Below w.heap.size w wc))
     case first =>
      have H := HC21.out
      clear HC21
      by_cases c22 : t468 = 0
      ·rw [if_pos c22] at H
       have c22b0 : (t468 == 0) = true := beq_iff_eq.mpr c22
       have c22b1 : (t468 != 0) = false := bne_eq_false_iff_eq.mpr c22
       clear c22
       (first | rw [c22b0] | (simp only [i64_w, i32_w]; rw [c22b0]) | skip)
       replace H := ob H
       obtain ⟨⟨t471, t472⟩, A230, H⟩ := H
       replace H : (if t472 = 0 then (if t471.toList = t466.toList then (laws_FnTurnedWords.j1 kj9 t460 t461 t462 t463) else (some false)) else (some false)) = some true := H
       have A23 := am A230
       clear A230
       by_cases c24 : t472 = 0
       ·rw [if_pos c24] at H
        have c24b0 : (t472 == 0) = true := beq_iff_eq.mpr c24
        have c24b1 : (t472 != 0) = false := bne_eq_false_iff_eq.mpr c24
        clear c24
        by_cases c25 : t471.toList = t466.toList
        ·rw [if_pos c25] at H
         have c25b0 : (t471.toList == t466.toList) = true := beq_iff_eq.mpr c25
         have c25b1 : (t471.toList != t466.toList) = false := bne_eq_false_iff_eq.mpr c25
         clear c25
         have H' := am H
         clear H
         go_wp2_with (first | ((with_reducible refine gate_callee (f := 14) rfl ?_); refine goesL_ (some 71) rfl rfl Tryd.func14 (by kernel_rfl) rfl #[.string t467] rfl (by (try simp only [List.map_toArray, List.map_cons, List.map_nil]); first | done | rfl | (simp only [List.length_drop, List.length_take]; rfl)) ?_; (with_reducible refine (impl_BackWord.calls t467 t471 t472 _ A23.out).mono ?_); rintro e w26 ⟨rfl, hb⟩; refine ⟨_, rfl, ?_⟩; have n0_ := am (b6 (by repeat (first | (with_reducible first | exact HB.out | apply b1 | apply b2 | apply b3) | exact HB.out)) hb); clear HB; have HB := n0_; clear n0_; (try clear hb); (try clear hb2); (try clear hk); (try clear hi)))
         go_meet
         case rel => exact ⟨_, H', ⟨by have := HJ9.out; first | omega | exact Nat.le_refl _⟩, ⟨by repeat (first | (with_reducible first | exact HB.out | apply b1 | apply b2 | apply b3) | exact HB.out)⟩⟩
        ·rw [if_neg c25] at H
         have c25b0 : (t471.toList == t466.toList) = false := beq_eq_false_iff_ne.mpr c25
         have c25b1 : (t471.toList != t466.toList) = true := bne_iff_ne.mpr c25
         exact absurd H (by simp)
       ·rw [if_neg c24] at H
        have c24b0 : (t472 == 0) = false := beq_eq_false_iff_ne.mpr c24
        have c24b1 : (t472 != 0) = true := bne_iff_ne.mpr c24
        exact absurd H (by simp)
      ·rw [if_neg c22] at H
       have c22b0 : (t468 == 0) = false := beq_eq_false_iff_ne.mpr c22
       have c22b1 : (t468 != 0) = true := bne_iff_ne.mpr c22
       (first | rw [c22b0] | (simp only [i64_w, i32_w]; rw [c22b0]) | skip)
       have H' := am H
       clear H
       go_wp2
       go_meet
       case rel => exact ⟨_, H', ⟨by have := HJ9.out; first | omega | exact Nat.le_refl _⟩, ⟨by repeat (first | (with_reducible first | exact HB.out | apply b1 | apply b2 | apply b3) | exact HB.out)⟩⟩
     case rest =>
      clear HC21
      try clear c1
      try clear c2
      try clear p2
      try clear c3
      try clear c9
      try clear c11
      try clear c12
      try clear c13
      try clear c14
      try clear c17
      try clear c17b0
      try clear c17b1
      try clear c18
      try clear c18b0
      try clear c18b1
      try clear c19
      try clear c19b0
      try clear c19b1
      try clear c20
      try clear c22
      try clear c22b0
      try clear c22b1
      try clear c23
      try clear c24
      try clear c24b0
      try clear c24b1
      try clear c25
      try clear c25b0
      try clear c25b1
      try clear p2
      obtain ⟨kq, HA, HJ20, HB⟩ := hcut
      cases kq with
      | zero => exact absurd HA.out (by simp [laws_FnTurnedWords.j1])
      | succ kj20 =>
       have H := HA.out
       clear HA
       simp only [laws_FnTurnedWords.j1] at H
       by_cases c27 : t463 = 0
       ·rw [if_pos c27] at H
        have c27b0 : (t463 == 0) = true := beq_iff_eq.mpr c27
        have c27b1 : (t463 != 0) = false := bne_eq_false_iff_eq.mpr c27
        clear c27
        replace H := ob H
        obtain ⟨⟨t473, t474⟩, A280, H⟩ := H
        replace H : (if t474 = 0 then (if t473.toList = t460.toList then ((impl_IsClosed.f t462).bind fun t475 => ((impl_IsClosed.f t460).bind fun t476 => (some (t475 == t476)))) else (some false)) else (some false)) = some true := H
        have A28 := am A280
        clear A280
        by_cases c29 : t474 = 0
        ·rw [if_pos c29] at H
         have c29b0 : (t474 == 0) = true := beq_iff_eq.mpr c29
         have c29b1 : (t474 != 0) = false := bne_eq_false_iff_eq.mpr c29
         clear c29
         by_cases c30 : t473.toList = t460.toList
         ·rw [if_pos c30] at H
          have c30b0 : (t473.toList == t460.toList) = true := beq_iff_eq.mpr c30
          have c30b1 : (t473.toList != t460.toList) = false := bne_eq_false_iff_eq.mpr c30
          clear c30
          replace H := ob H
          obtain ⟨t475, A310, H⟩ := H
          replace H : ((impl_IsClosed.f t460).bind fun t476 => (some (t475 == t476))) = some true := H
          have A31 := am A310
          clear A310
          replace H := ob H
          obtain ⟨t476, A320, H⟩ := H
          replace H : (some (t475 == t476)) = some true := H
          have A32 := am A320
          clear A320
          first | obtain rfl := oi H | (have HR := oi H; clear H)
          go_wp2_with (first | ((with_reducible refine gate_callee (f := 12) rfl ?_); refine goesL_ (some 88) rfl rfl Tryd.func12 (by kernel_rfl) rfl #[.string t462, .int .i64 (Int.tmod (wrap64 (4 - t461)) 4)] rfl (by (try simp only [List.map_toArray, List.map_cons, List.map_nil]); first | done | rfl | (simp only [List.length_drop, List.length_take]; rfl)) ?_; (with_reducible refine (impl_TurnWord.calls t462 (Int.tmod (wrap64 (4 - t461)) 4) t473 t474 _ A28.out).mono ?_); rintro e w33 ⟨rfl, hb⟩; refine ⟨_, rfl, ?_⟩; have n0_ := am (b6 (by repeat (first | (with_reducible first | exact HB.out | apply b1 | apply b2 | apply b3) | exact HB.out)) hb); clear HB; have HB := n0_; clear n0_; (try clear hb); (try clear hb2); (try clear hk); (try clear hi)) | (go_at_call 16; (with_reducible refine (impl_IsClosed.calls t462 t475 _ A31.out).mono ?_); rintro e w34 ⟨rfl, hb⟩; have n0_ := am (b6 (by repeat (first | (with_reducible first | exact HB.out | apply b1 | apply b2 | apply b3) | exact HB.out)) hb); clear HB; have HB := n0_; clear n0_; (try clear hb); (try clear hb2); (try clear hk); (try clear hi)) | (go_at_call 16; (with_reducible refine (impl_IsClosed.calls t460 t476 _ A32.out).mono ?_); rintro e w35 ⟨rfl, hb⟩; have n0_ := am (b6 (by repeat (first | (with_reducible first | exact HB.out | apply b1 | apply b2 | apply b3) | exact HB.out)) hb); clear HB; have HB := n0_; clear n0_; (try clear hb); (try clear hb2); (try clear hk); (try clear hi)))
          go_ret
          exact ⟨by first | rfl | (simp [errW_none, errW_some] <;> rfl) | (simp [*, errW_none, errW_some] <;> rfl), by repeat (first | (with_reducible first | exact HB.out | apply b1 | apply b2 | apply b3) | exact HB.out)⟩
         ·rw [if_neg c30] at H
          have c30b0 : (t473.toList == t460.toList) = false := beq_eq_false_iff_ne.mpr c30
          have c30b1 : (t473.toList != t460.toList) = true := bne_iff_ne.mpr c30
          exact absurd H (by simp)
        ·rw [if_neg c29] at H
         have c29b0 : (t474 == 0) = false := beq_eq_false_iff_ne.mpr c29
         have c29b1 : (t474 != 0) = true := bne_iff_ne.mpr c29
         exact absurd H (by simp)
       ·rw [if_neg c27] at H
        have c27b0 : (t463 == 0) = false := beq_eq_false_iff_ne.mpr c27
        have c27b1 : (t463 != 0) = true := bne_iff_ne.mpr c27
        clear H
        go_wp2
        go_ret
        exact ⟨by first | rfl | (simp [errW_none, errW_some] <;> rfl) | (simp [*, errW_none, errW_some] <;> rfl), by repeat (first | (with_reducible first | exact HB.out | apply b1 | apply b2 | apply b3) | exact HB.out)⟩

end Go.Proofs.YtcgnnfaemjjljaaDoor.Q
