/- Written by a program of this session (wip/tools/pp.py) out of the translation, with the kit's printer. -/
import Derived.Test.YtcgnnfaemjjljaaDoorQ0
import Derived.Test.YtcgnnfaemjjljaaDoorQ6
import Derived.Test.YtcgnnfaemjjljaaDoorQ10
import Derived.Test.YtcgnnfaemjjljaaDoorQ14
import Derived.Test.YtcgnnfaemjjljaaDoorQ15
import Derived.Test.YtcgnnfaemjjljaaDoorQ16
import Derived.Test.YtcgnnfaemjjljaaDoorQ17
import Derived.Test.YtcgnnfaemjjljaaDoorQ33
namespace Go.Proofs.YtcgnnfaemjjljaaDoor.Q
open Go.RowKit Go.Proofs.YtcgnnfaemjjljaaDoorW.PrintWords Go.Proofs.YtcgnnfaemjjljaaDoorW.PrintLast Go.Proofs.YtcgnnfaemjjljaaDoorW.PrintMore
attribute [local go_sem] max2_int min2_int max_two min_two max_three min_three max_four min_four
set_option linter.unusedVariables false
set_option linter.unusedSimpArgs false

/-! ### laws_FnFactorings: function 10 -/
def laws_FnFactorings.j0 : Nat → ByteArray → Int → Int → Int → Int → Int → Int → Int → Bool → Option (Bool)
 | 0, _, _, _, _, _, _, _, _, _ => none
 | k + 1, x3, x4, x5, x6, x7, x8, x9, x10, x79 => if x79 = true then (some false) else (if x7 = 0 then (if 0 ≤ x8 then (if x8 ≤ (x3.size : Int) then (if (x3.extract (x8 : Int).toNat x3.size).size + (x3.extract 0 (x8 : Int).toNat).size ≤ 9223372036854775807 then (if 0 ≤ x9 then (if x9 ≤ (((x3.extract (x8 : Int).toNat x3.size) ++ (x3.extract 0 (x8 : Int).toNat)).size : Int) then ((impl_BackWord.f (((x3.extract (x8 : Int).toNat x3.size) ++ (x3.extract 0 (x8 : Int).toNat)).extract 0 (x9 : Int).toNat)).bind fun bt444 => (if x9 ≤ (wrap64 (x9 + x10)) then (if (wrap64 (x9 + x10)) ≤ (((x3.extract (x8 : Int).toNat x3.size) ++ (x3.extract 0 (x8 : Int).toNat)).size : Int) then ((impl_BackWord.f (((x3.extract (x8 : Int).toNat x3.size) ++ (x3.extract 0 (x8 : Int).toNat)).extract (x9 : Int).toNat ((wrap64 (x9 + x10)) : Int).toNat)).bind fun bt446 => (if 0 ≤ (wrap64 (x9 + x10)) then (if (wrap64 (x9 + x10)) ≤ (wrap64 ((x3.size : Int) / 2)) then (if (wrap64 ((x3.size : Int) / 2)) ≤ (((x3.extract (x8 : Int).toNat x3.size) ++ (x3.extract 0 (x8 : Int).toNat)).size : Int) then ((impl_BackWord.f (((x3.extract (x8 : Int).toNat x3.size) ++ (x3.extract 0 (x8 : Int).toNat)).extract ((wrap64 (x9 + x10)) : Int).toNat ((wrap64 ((x3.size : Int) / 2)) : Int).toNat)).bind fun bt448 => (if bt444.2 = 0 then (if bt446.2 = 0 then (if bt448.2 = 0 then (if 0 ≤ (wrap64 ((x3.size : Int) / 2)) then (if bt444.1.size + bt446.1.size ≤ 9223372036854775807 then (if (bt444.1 ++ bt446.1).size + bt448.1.size ≤ 9223372036854775807 then (if (((x3.extract (x8 : Int).toNat x3.size) ++ (x3.extract 0 (x8 : Int).toNat)).extract ((wrap64 ((x3.size : Int) / 2)) : Int).toNat ((x3.extract (x8 : Int).toNat x3.size) ++ (x3.extract 0 (x8 : Int).toNat)).size).toList = ((bt444.1 ++ bt446.1) ++ bt448.1).toList then ((impl_IsFactoring.f k x3 x4 x5 x6).bind fun t450 => (some t450)) else (some false)) else (none)) else (none)) else (none)) else (some false)) else (some false)) else (some false))) else (none)) else (none)) else (none))) else (none)) else (none))) else (none)) else (none)) else (none)) else (none)) else (none)) else (some true))
def laws_FnFactorings.f (k : Nat) (l0 : List Int) : Option (Bool) := (laws_big.f l0).bind fun t428 => (if t428 = true then (some true) else ((spec_DrawFindFactoring.f k l0).bind fun t429 => ((impl_FindFactoring.f k t429).bind fun bt430 => ((spec_FindFactoring.f k t429).bind fun bt434 => ((spec_DrawIsFactoring.f k l0).bind fun bt438 => (if bt430.2.2.2 = bt434.2.2.2 then (if bt430.1 = bt434.1 then (if bt430.2.1 = bt434.2.1 then (if bt430.2.2.1 = bt434.2.2.1 then ((impl_IsFactoring.f k bt438.1 bt438.2.1 bt438.2.2.1 bt438.2.2.2).bind fun t442 => ((spec_IsFactoring.f k bt438.1 bt438.2.1 bt438.2.2.1 bt438.2.2.2).bind fun t443 => (laws_FnFactorings.j0 k t429 bt430.1 bt430.2.1 bt430.2.2.1 bt430.2.2.2 bt434.1 bt434.2.1 bt434.2.2.1 (t442 != t443)))) else (laws_FnFactorings.j0 k t429 bt430.1 bt430.2.1 bt430.2.2.1 bt430.2.2.2 bt434.1 bt434.2.1 bt434.2.2.1 true)) else (laws_FnFactorings.j0 k t429 bt430.1 bt430.2.1 bt430.2.2.1 bt430.2.2.2 bt434.1 bt434.2.1 bt434.2.2.1 true)) else (laws_FnFactorings.j0 k t429 bt430.1 bt430.2.1 bt430.2.2.1 bt430.2.2.2 bt434.1 bt434.2.1 bt434.2.2.1 true)) else (laws_FnFactorings.j0 k t429 bt430.1 bt430.2.1 bt430.2.2.1 bt430.2.2.2 bt434.1 bt434.2.1 bt434.2.2.1 true)))))))
theorem laws_FnFactorings.mono_l : ∀ k, (∀ y0 y1 y2 y3 y4 y5 y6 y7 y8, LeO (laws_FnFactorings.j0 k y0 y1 y2 y3 y4 y5 y6 y7 y8) (laws_FnFactorings.j0 (k + 1) y0 y1 y2 y3 y4 y5 y6 y7 y8))
 | 0 => fun _ _ _ _ _ _ _ _ _ r h => by simp [laws_FnFactorings.j0] at h
 | k + 1 => by
  have ih0 := laws_FnFactorings.mono_l k
  ·intro y0 y1 y2 y3 y4 y5 y6 y7 y8
   unfold laws_FnFactorings.j0
   repeat' first
   | (with_reducible exact ih0 _ _ _ _ _ _ _ _ _)
   | (with_reducible exact impl_FindFactoring.mono _ _)
   | (with_reducible exact impl_IsFactoring.mono _ _ _ _ _)
   | (with_reducible exact spec_DrawFindFactoring.mono _ _)
   | (with_reducible exact spec_DrawIsFactoring.mono _ _)
   | (with_reducible exact spec_FindFactoring.mono _ _)
   | (with_reducible exact spec_IsFactoring.mono _ _ _ _ _)
   | (with_reducible exact LeO.refl _)
   | (with_reducible exact LeO.none _)
   | (with_reducible refine LeO.ite ?_ ?_)
   | (with_reducible refine LeO.bind ?_ (fun _ => ?_))
   | exact ih0 _ _ _ _ _ _ _ _ _
   | exact impl_FindFactoring.mono _ _
   | exact impl_IsFactoring.mono _ _ _ _ _
   | exact spec_DrawFindFactoring.mono _ _
   | exact spec_DrawIsFactoring.mono _ _
   | exact spec_FindFactoring.mono _ _
   | exact spec_IsFactoring.mono _ _ _ _ _
   | exact LeO.none _
   | refine LeO.ite ?_ ?_
   | refine LeO.bind ?_ (fun _ => ?_)
theorem laws_FnFactorings.mono : ∀ a0 k, LeO (laws_FnFactorings.f k a0) (laws_FnFactorings.f (k + 1) a0) := by
 intro a0 k
 have ih0 := laws_FnFactorings.mono_l k
 unfold laws_FnFactorings.f
 repeat' first
   | (with_reducible exact ih0 _ _ _ _ _ _ _ _ _)
   | (with_reducible exact impl_FindFactoring.mono _ _)
   | (with_reducible exact impl_IsFactoring.mono _ _ _ _ _)
   | (with_reducible exact spec_DrawFindFactoring.mono _ _)
   | (with_reducible exact spec_DrawIsFactoring.mono _ _)
   | (with_reducible exact spec_FindFactoring.mono _ _)
   | (with_reducible exact spec_IsFactoring.mono _ _ _ _ _)
   | (with_reducible exact LeO.refl _)
   | (with_reducible exact LeO.none _)
   | (with_reducible refine LeO.ite ?_ ?_)
   | (with_reducible refine LeO.bind ?_ (fun _ => ?_))
   | exact ih0 _ _ _ _ _ _ _ _ _
   | exact impl_FindFactoring.mono _ _
   | exact impl_IsFactoring.mono _ _ _ _ _
   | exact spec_DrawFindFactoring.mono _ _
   | exact spec_DrawIsFactoring.mono _ _
   | exact spec_FindFactoring.mono _ _
   | exact spec_IsFactoring.mono _ _ _ _ _
   | exact LeO.none _
   | refine LeO.ite ?_ ?_
   | refine LeO.bind ?_ (fun _ => ?_)
set_option maxHeartbeats 8000000 in
set_option maxRecDepth 100000 in
theorem laws_FnFactorings.calls (k : Nat) (A0 : Option Addr) (c0 : Nat) (l0 : List Int) (w : World) (hr0 : Kd.C (Kd.int .u8) w A0 l0.length l0) (hc0 : l0.length ≤ c0) (h : laws_FnFactorings.f k l0 = some true) :
  Calls Tryd.prog 10 #[.slice A0 l0.length c0] w fun e w' => e = .returned (.bool true) ∧ Below w.heap.size w w' := by
 have HR0 := am hr0
 have HC0 := am hc0
 clear hr0 hc0
 have HB := am (Below.refl w.heap.size w)
 have H : ((laws_big.f l0).bind fun t428 => (if t428 = true then (some true) else ((spec_DrawFindFactoring.f k l0).bind fun t429 => ((impl_FindFactoring.f k t429).bind fun bt430 => ((spec_FindFactoring.f k t429).bind fun bt434 => ((spec_DrawIsFactoring.f k l0).bind fun bt438 => (if bt430.2.2.2 = bt434.2.2.2 then (if bt430.1 = bt434.1 then (if bt430.2.1 = bt434.2.1 then (if bt430.2.2.1 = bt434.2.2.1 then ((impl_IsFactoring.f k bt438.1 bt438.2.1 bt438.2.2.1 bt438.2.2.2).bind fun t442 => ((spec_IsFactoring.f k bt438.1 bt438.2.1 bt438.2.2.1 bt438.2.2.2).bind fun t443 => (laws_FnFactorings.j0 k t429 bt430.1 bt430.2.1 bt430.2.2.1 bt430.2.2.2 bt434.1 bt434.2.1 bt434.2.2.1 (t442 != t443)))) else (laws_FnFactorings.j0 k t429 bt430.1 bt430.2.1 bt430.2.2.1 bt430.2.2.2 bt434.1 bt434.2.1 bt434.2.2.1 true)) else (laws_FnFactorings.j0 k t429 bt430.1 bt430.2.1 bt430.2.2.1 bt430.2.2.2 bt434.1 bt434.2.1 bt434.2.2.1 true)) else (laws_FnFactorings.j0 k t429 bt430.1 bt430.2.1 bt430.2.2.1 bt430.2.2.2 bt434.1 bt434.2.1 bt434.2.2.1 true)) else (laws_FnFactorings.j0 k t429 bt430.1 bt430.2.1 bt430.2.2.1 bt430.2.2.2 bt434.1 bt434.2.1 bt434.2.2.1 true)))))))) = some true := h
 clear h
 replace H := ob H
 obtain ⟨t428, A20, H⟩ := H
 (try dsimp only at H)
 have A2 := am A20
 clear A20
 by_cases c3 : t428 = true
 ·subst c3
  have H1 : (some true) = some true := by first | (rw [if_pos rfl] at H; exact H) | rfl
  clear H
  have H := H1
  clear H1
  clear H
  go_enter Tryd.func10, Tryd.ntmps10
  go_wp2_with (first | (go_at_call 23; (with_reducible refine (laws_big.calls _ _ l0 true _ ?side1 ?side2 A2.out).mono ?_); (case side1 => repeat (first | exact HR0.out | (with_reducible refine Kd.C_alloc ?_ _) | (with_reducible refine Kd.C_drewN ?_ _) | (with_reducible refine Kd.C_drew ?_))); (case side2 => exact HC0.out); rintro e w' ⟨rfl, ⟨nd, rfl⟩⟩; (try first | exact ⟨rfl, _, World.drewN_drewN _ _ _⟩ | exact ⟨rfl, _, Eq.trans (World.drewN_drewN _ _ _) (congrArg (World.drewN _) (Nat.add_assoc _ _ _))⟩)))
  repeat (go_quiet (first | (go_at_call 23; (with_reducible refine (laws_big.calls _ _ l0 true _ ?side1 ?side2 A2.out).mono ?_); (case side1 => repeat (first | exact HR0.out | (with_reducible refine Kd.C_alloc ?_ _) | (with_reducible refine Kd.C_drewN ?_ _) | (with_reducible refine Kd.C_drew ?_))); (case side2 => exact HC0.out); rintro e w' ⟨rfl, ⟨nd, rfl⟩⟩; (try first | exact ⟨rfl, _, World.drewN_drewN _ _ _⟩ | exact ⟨rfl, _, Eq.trans (World.drewN_drewN _ _ _) (congrArg (World.drewN _) (Nat.add_assoc _ _ _))⟩))); try go_wp2_with (first | (go_at_call 23; (with_reducible refine (laws_big.calls _ _ l0 true _ ?side1 ?side2 A2.out).mono ?_); (case side1 => repeat (first | exact HR0.out | (with_reducible refine Kd.C_alloc ?_ _) | (with_reducible refine Kd.C_drewN ?_ _) | (with_reducible refine Kd.C_drew ?_))); (case side2 => exact HC0.out); rintro e w' ⟨rfl, ⟨nd, rfl⟩⟩; (try first | exact ⟨rfl, _, World.drewN_drewN _ _ _⟩ | exact ⟨rfl, _, Eq.trans (World.drewN_drewN _ _ _) (congrArg (World.drewN _) (Nat.add_assoc _ _ _))⟩))))
  go_ret
  exact ⟨zE, zB⟩
 replace c3 := ef c3
 subst c3
 have H1 : ((spec_DrawFindFactoring.f k l0).bind fun t429 => ((impl_FindFactoring.f k t429).bind fun bt430 => ((spec_FindFactoring.f k t429).bind fun bt434 => ((spec_DrawIsFactoring.f k l0).bind fun bt438 => (if bt430.2.2.2 = bt434.2.2.2 then (if bt430.1 = bt434.1 then (if bt430.2.1 = bt434.2.1 then (if bt430.2.2.1 = bt434.2.2.1 then ((impl_IsFactoring.f k bt438.1 bt438.2.1 bt438.2.2.1 bt438.2.2.2).bind fun t442 => ((spec_IsFactoring.f k bt438.1 bt438.2.1 bt438.2.2.1 bt438.2.2.2).bind fun t443 => (laws_FnFactorings.j0 k t429 bt430.1 bt430.2.1 bt430.2.2.1 bt430.2.2.2 bt434.1 bt434.2.1 bt434.2.2.1 (t442 != t443)))) else (laws_FnFactorings.j0 k t429 bt430.1 bt430.2.1 bt430.2.2.1 bt430.2.2.2 bt434.1 bt434.2.1 bt434.2.2.1 true)) else (laws_FnFactorings.j0 k t429 bt430.1 bt430.2.1 bt430.2.2.1 bt430.2.2.2 bt434.1 bt434.2.1 bt434.2.2.1 true)) else (laws_FnFactorings.j0 k t429 bt430.1 bt430.2.1 bt430.2.2.1 bt430.2.2.2 bt434.1 bt434.2.1 bt434.2.2.1 true)) else (laws_FnFactorings.j0 k t429 bt430.1 bt430.2.1 bt430.2.2.1 bt430.2.2.2 bt434.1 bt434.2.1 bt434.2.2.1 true)))))) = some true := by first | (rw [if_neg (show ¬ (false = true) by decide)] at H; exact H) | rfl
 clear H
 have H := H1
 clear H1
 replace H := ob H
 obtain ⟨t429, A40, H⟩ := H
 (try dsimp only at H)
 have A4 := am A40
 clear A40
 replace H := ob H
 obtain ⟨⟨t430, t431, t432, t433⟩, A50, H⟩ := H
 (try dsimp only at H)
 have A5 := am A50
 clear A50
 replace H := ob H
 obtain ⟨⟨t434, t435, t436, t437⟩, A60, H⟩ := H
 (try dsimp only at H)
 have A6 := am A60
 clear A60
 replace H := ob H
 obtain ⟨⟨t438, t439, t440, t441⟩, A70, H⟩ := H
 (try dsimp only at H)
 have A7 := am A70
 clear A70
 have HC8 := am H
 clear H
 go_enter Tryd.func10, Tryd.ntmps10
 go_upto_region 7 with (first | (go_at_call 23; (with_reducible refine (laws_big.calls _ _ l0 false _ ?side1 ?side2 A2.out).mono ?_); (case side1 => repeat (first | exact HR0.out | (with_reducible refine Kd.C_alloc ?_ _) | (with_reducible refine Kd.C_drewN ?_ _) | (with_reducible refine Kd.C_drew ?_))); (case side2 => exact HC0.out); rintro e w' ⟨rfl, ⟨nd, rfl⟩⟩; (try first | exact ⟨rfl, _, World.drewN_drewN _ _ _⟩ | exact ⟨rfl, _, Eq.trans (World.drewN_drewN _ _ _) (congrArg (World.drewN _) (Nat.add_assoc _ _ _))⟩)) | (go_at_call 26; (with_reducible refine (spec_DrawFindFactoring.calls k _ _ l0 t429 _ ?side1 ?side2 A4.out).mono ?_); (case side1 => repeat (first | exact HR0.out | (with_reducible refine Kd.C_alloc ?_ _) | (with_reducible refine Kd.C_drewN ?_ _) | (with_reducible refine Kd.C_drew ?_))); (case side2 => exact HC0.out); rintro e w9 ⟨rfl, hb⟩; have n0_ := am (Bb6 zB hb); clear HB; have HB := n0_; clear n0_; (try clear hb); (try clear hb2); (try clear hk); (try clear hi)) | (go_at_call 22; (with_reducible refine (impl_FindFactoring.calls k t429 t430 t431 t432 t433 _ A5.out).mono ?_); rintro e w10 ⟨rfl, hb⟩; have n0_ := am (Bb6 zB hb); clear HB; have HB := n0_; clear n0_; (try clear hb); (try clear hb2); (try clear hk); (try clear hi)) | (go_at_call 21; (with_reducible refine (spec_FindFactoring.calls k t429 t434 t435 t436 t437 _ A6.out).mono ?_); rintro e w11 ⟨rfl, hb⟩; have n0_ := am (Bb6 zB hb); clear HB; have HB := n0_; clear n0_; (try clear hb); (try clear hb2); (try clear hk); (try clear hi)) | (go_at_call 27; (with_reducible refine (spec_DrawIsFactoring.calls k _ _ l0 t438 t439 t440 t441 _ ?side1 ?side2 A7.out).mono ?_); (case side1 => repeat (first | exact (Kd.C_below HR0.out HB.out) | (with_reducible refine Kd.C_alloc ?_ _) | (with_reducible refine Kd.C_drewN ?_ _) | (with_reducible refine Kd.C_drew ?_))); (case side2 => exact HC0.out); rintro e w12 ⟨rfl, hb⟩; have n0_ := am (Bb6 zB hb); clear HB; have HB := n0_; clear n0_; (try clear hb); (try clear hb2); (try clear hk); (try clear hi)))
 repeat (go_quiet (first | (go_at_call 23; (with_reducible refine (laws_big.calls _ _ l0 false _ ?side1 ?side2 A2.out).mono ?_); (case side1 => repeat (first | exact HR0.out | (with_reducible refine Kd.C_alloc ?_ _) | (with_reducible refine Kd.C_drewN ?_ _) | (with_reducible refine Kd.C_drew ?_))); (case side2 => exact HC0.out); rintro e w' ⟨rfl, ⟨nd, rfl⟩⟩; (try first | exact ⟨rfl, _, World.drewN_drewN _ _ _⟩ | exact ⟨rfl, _, Eq.trans (World.drewN_drewN _ _ _) (congrArg (World.drewN _) (Nat.add_assoc _ _ _))⟩)) | (go_at_call 26; (with_reducible refine (spec_DrawFindFactoring.calls k _ _ l0 t429 _ ?side1 ?side2 A4.out).mono ?_); (case side1 => repeat (first | exact HR0.out | (with_reducible refine Kd.C_alloc ?_ _) | (with_reducible refine Kd.C_drewN ?_ _) | (with_reducible refine Kd.C_drew ?_))); (case side2 => exact HC0.out); rintro e w9 ⟨rfl, hb⟩; have n0_ := am (Bb6 zB hb); clear HB; have HB := n0_; clear n0_; (try clear hb); (try clear hb2); (try clear hk); (try clear hi)) | (go_at_call 22; (with_reducible refine (impl_FindFactoring.calls k t429 t430 t431 t432 t433 _ A5.out).mono ?_); rintro e w10 ⟨rfl, hb⟩; have n0_ := am (Bb6 zB hb); clear HB; have HB := n0_; clear n0_; (try clear hb); (try clear hb2); (try clear hk); (try clear hi)) | (go_at_call 21; (with_reducible refine (spec_FindFactoring.calls k t429 t434 t435 t436 t437 _ A6.out).mono ?_); rintro e w11 ⟨rfl, hb⟩; have n0_ := am (Bb6 zB hb); clear HB; have HB := n0_; clear n0_; (try clear hb); (try clear hb2); (try clear hk); (try clear hi)) | (go_at_call 27; (with_reducible refine (spec_DrawIsFactoring.calls k _ _ l0 t438 t439 t440 t441 _ ?side1 ?side2 A7.out).mono ?_); (case side1 => repeat (first | exact (Kd.C_below HR0.out HB.out) | (with_reducible refine Kd.C_alloc ?_ _) | (with_reducible refine Kd.C_drewN ?_ _) | (with_reducible refine Kd.C_drew ?_))); (case side2 => exact HC0.out); rintro e w12 ⟨rfl, hb⟩; have n0_ := am (Bb6 zB hb); clear HB; have HB := n0_; clear n0_; (try clear hb); (try clear hb2); (try clear hk); (try clear hi))); go_upto_region 7 with (first | (go_at_call 23; (with_reducible refine (laws_big.calls _ _ l0 false _ ?side1 ?side2 A2.out).mono ?_); (case side1 => repeat (first | exact HR0.out | (with_reducible refine Kd.C_alloc ?_ _) | (with_reducible refine Kd.C_drewN ?_ _) | (with_reducible refine Kd.C_drew ?_))); (case side2 => exact HC0.out); rintro e w' ⟨rfl, ⟨nd, rfl⟩⟩; (try first | exact ⟨rfl, _, World.drewN_drewN _ _ _⟩ | exact ⟨rfl, _, Eq.trans (World.drewN_drewN _ _ _) (congrArg (World.drewN _) (Nat.add_assoc _ _ _))⟩)) | (go_at_call 26; (with_reducible refine (spec_DrawFindFactoring.calls k _ _ l0 t429 _ ?side1 ?side2 A4.out).mono ?_); (case side1 => repeat (first | exact HR0.out | (with_reducible refine Kd.C_alloc ?_ _) | (with_reducible refine Kd.C_drewN ?_ _) | (with_reducible refine Kd.C_drew ?_))); (case side2 => exact HC0.out); rintro e w9 ⟨rfl, hb⟩; have n0_ := am (Bb6 zB hb); clear HB; have HB := n0_; clear n0_; (try clear hb); (try clear hb2); (try clear hk); (try clear hi)) | (go_at_call 22; (with_reducible refine (impl_FindFactoring.calls k t429 t430 t431 t432 t433 _ A5.out).mono ?_); rintro e w10 ⟨rfl, hb⟩; have n0_ := am (Bb6 zB hb); clear HB; have HB := n0_; clear n0_; (try clear hb); (try clear hb2); (try clear hk); (try clear hi)) | (go_at_call 21; (with_reducible refine (spec_FindFactoring.calls k t429 t434 t435 t436 t437 _ A6.out).mono ?_); rintro e w11 ⟨rfl, hb⟩; have n0_ := am (Bb6 zB hb); clear HB; have HB := n0_; clear n0_; (try clear hb); (try clear hb2); (try clear hk); (try clear hi)) | (go_at_call 27; (with_reducible refine (spec_DrawIsFactoring.calls k _ _ l0 t438 t439 t440 t441 _ ?side1 ?side2 A7.out).mono ?_); (case side1 => repeat (first | exact (Kd.C_below HR0.out HB.out) | (with_reducible refine Kd.C_alloc ?_ _) | (with_reducible refine Kd.C_drewN ?_ _) | (with_reducible refine Kd.C_drew ?_))); (case side2 => exact HC0.out); rintro e w12 ⟨rfl, hb⟩; have n0_ := am (Bb6 zB hb); clear HB; have HB := n0_; clear n0_; (try clear hb); (try clear hb2); (try clear hk); (try clear hi))))
 (try simp only [Act.put, sa])
 go_cut [79] (fun v79 wc => ∃ (kq : Nat) (x79_7 : Bool), v79 = .bool x79_7 ∧ Aside0 (laws_FnFactorings.j0 kq t429 t430 t431 t432 t433 t434 t435 t436 x79_7 = some true) ∧ Aside0 (kq ≤ k) ∧ Aside0 (Below w.heap.size w wc))
 case first =>
  have H := HC8.out
  clear HC8
  by_cases c13 : t433 = t437
  rotate_left
  ·rw [if_neg c13] at H
   have c13b0 : (t433 == t437) = false := beq_eq_false_iff_ne.mpr c13
   have c13b1 : (t433 != t437) = true := bne_iff_ne.mpr c13
   (first | rw [c13b0] | (simp only [i64_w, i32_w]; rw [c13b0]) | skip)
   have H' := am H
   clear H
   go_wp2
   repeat (go_quiet (fail); try go_wp2)
   go_meet
   case rel => exact ⟨_, (true), zS, H', ⟨by first | omega | exact Nat.le_refl _⟩, ⟨zB⟩⟩
  rw [if_pos c13] at H
  have c13b0 : (t433 == t437) = true := beq_iff_eq.mpr c13
  have c13b1 : (t433 != t437) = false := bne_eq_false_iff_eq.mpr c13
  clear c13
  (first | rw [c13b0] | (simp only [i64_w, i32_w]; rw [c13b0]) | skip)
  by_cases c14 : t430 = t434
  rotate_left
  ·rw [if_neg c14] at H
   have c14b0 : (t430 == t434) = false := beq_eq_false_iff_ne.mpr c14
   have c14b1 : (t430 != t434) = true := bne_iff_ne.mpr c14
   have H' := am H
   clear H
   go_wp2
   repeat (go_quiet (fail); try go_wp2)
   go_meet
   case rel => exact ⟨_, (true), zS, H', ⟨by first | omega | exact Nat.le_refl _⟩, ⟨zB⟩⟩
  rw [if_pos c14] at H
  have c14b0 : (t430 == t434) = true := beq_iff_eq.mpr c14
  have c14b1 : (t430 != t434) = false := bne_eq_false_iff_eq.mpr c14
  clear c14
  by_cases c15 : t431 = t435
  rotate_left
  ·rw [if_neg c15] at H
   have c15b0 : (t431 == t435) = false := beq_eq_false_iff_ne.mpr c15
   have c15b1 : (t431 != t435) = true := bne_iff_ne.mpr c15
   have H' := am H
   clear H
   go_wp2
   repeat (go_quiet (fail); try go_wp2)
   go_meet
   case rel => exact ⟨_, (true), zS, H', ⟨by first | omega | exact Nat.le_refl _⟩, ⟨zB⟩⟩
  rw [if_pos c15] at H
  have c15b0 : (t431 == t435) = true := beq_iff_eq.mpr c15
  have c15b1 : (t431 != t435) = false := bne_eq_false_iff_eq.mpr c15
  clear c15
  by_cases c16 : t432 = t436
  rotate_left
  ·rw [if_neg c16] at H
   have c16b0 : (t432 == t436) = false := beq_eq_false_iff_ne.mpr c16
   have c16b1 : (t432 != t436) = true := bne_iff_ne.mpr c16
   have H' := am H
   clear H
   go_wp2
   repeat (go_quiet (fail); try go_wp2)
   go_meet
   case rel => exact ⟨_, (true), zS, H', ⟨by first | omega | exact Nat.le_refl _⟩, ⟨zB⟩⟩
  rw [if_pos c16] at H
  have c16b0 : (t432 == t436) = true := beq_iff_eq.mpr c16
  have c16b1 : (t432 != t436) = false := bne_eq_false_iff_eq.mpr c16
  clear c16
  replace H := ob H
  obtain ⟨t442, A170, H⟩ := H
  (try dsimp only at H)
  have A17 := am A170
  clear A170
  replace H := ob H
  obtain ⟨t443, A180, H⟩ := H
  (try dsimp only at H)
  have A18 := am A180
  clear A180
  have H' := am H
  clear H
  go_wp2_with (first | (go_at_call 20; (with_reducible refine (impl_IsFactoring.calls k t438 t439 t440 t441 t442 _ A17.out).mono ?_); rintro e w19 ⟨rfl, hb⟩; have n0_ := am (Bb6 zB hb); clear HB; have HB := n0_; clear n0_; (try clear hb); (try clear hb2); (try clear hk); (try clear hi)) | (go_at_call 19; (with_reducible refine (spec_IsFactoring.calls k t438 t439 t440 t441 t443 _ A18.out).mono ?_); rintro e w20 ⟨rfl, hb⟩; have n0_ := am (Bb6 zB hb); clear HB; have HB := n0_; clear n0_; (try clear hb); (try clear hb2); (try clear hk); (try clear hi)))
  repeat (go_quiet (first | (go_at_call 20; (with_reducible refine (impl_IsFactoring.calls k t438 t439 t440 t441 t442 _ A17.out).mono ?_); rintro e w19 ⟨rfl, hb⟩; have n0_ := am (Bb6 zB hb); clear HB; have HB := n0_; clear n0_; (try clear hb); (try clear hb2); (try clear hk); (try clear hi)) | (go_at_call 19; (with_reducible refine (spec_IsFactoring.calls k t438 t439 t440 t441 t443 _ A18.out).mono ?_); rintro e w20 ⟨rfl, hb⟩; have n0_ := am (Bb6 zB hb); clear HB; have HB := n0_; clear n0_; (try clear hb); (try clear hb2); (try clear hk); (try clear hi))); try go_wp2_with (first | (go_at_call 20; (with_reducible refine (impl_IsFactoring.calls k t438 t439 t440 t441 t442 _ A17.out).mono ?_); rintro e w19 ⟨rfl, hb⟩; have n0_ := am (Bb6 zB hb); clear HB; have HB := n0_; clear n0_; (try clear hb); (try clear hb2); (try clear hk); (try clear hi)) | (go_at_call 19; (with_reducible refine (spec_IsFactoring.calls k t438 t439 t440 t441 t443 _ A18.out).mono ?_); rintro e w20 ⟨rfl, hb⟩; have n0_ := am (Bb6 zB hb); clear HB; have HB := n0_; clear n0_; (try clear hb); (try clear hb2); (try clear hk); (try clear hi))))
  go_meet
  case rel => exact ⟨_, ((t442 != t443)), zS, H', ⟨by first | omega | exact Nat.le_refl _⟩, ⟨zB⟩⟩
 clear HC8
 try clear c1
 try clear p2
 try clear c3
 try clear c10
 try clear c13
 try clear c13b0
 try clear c13b1
 try clear c14
 try clear c14b0
 try clear c14b1
 try clear c15
 try clear c15b0
 try clear c15b1
 try clear c16
 try clear c16b0
 try clear c16b1
 obtain ⟨kq, x79_7, rfl, HA, HJ7, HB⟩ := hcut
 cases kq with
 | zero => exact absurd HA.out (by simp [laws_FnFactorings.j0])
 | succ kj7 =>
  have H := HA.out
  clear HA
  simp only [laws_FnFactorings.j0] at H
  by_cases c21 : x79_7 = true
  ·subst c21
   have H1 : (some false) = some true := by first | (rw [if_pos rfl] at H; exact H) | rfl
   clear H
   have H := H1
   clear H1
   exact absurd H (by simp)
  replace c21 := ef c21
  subst c21
  have H1 : (if t433 = 0 then (if 0 ≤ t434 then (if t434 ≤ (t429.size : Int) then (if (t429.extract (t434 : Int).toNat t429.size).size + (t429.extract 0 (t434 : Int).toNat).size ≤ 9223372036854775807 then (if 0 ≤ t435 then (if t435 ≤ (((t429.extract (t434 : Int).toNat t429.size) ++ (t429.extract 0 (t434 : Int).toNat)).size : Int) then ((impl_BackWord.f (((t429.extract (t434 : Int).toNat t429.size) ++ (t429.extract 0 (t434 : Int).toNat)).extract 0 (t435 : Int).toNat)).bind fun bt444 => (if t435 ≤ (wrap64 (t435 + t436)) then (if (wrap64 (t435 + t436)) ≤ (((t429.extract (t434 : Int).toNat t429.size) ++ (t429.extract 0 (t434 : Int).toNat)).size : Int) then ((impl_BackWord.f (((t429.extract (t434 : Int).toNat t429.size) ++ (t429.extract 0 (t434 : Int).toNat)).extract (t435 : Int).toNat ((wrap64 (t435 + t436)) : Int).toNat)).bind fun bt446 => (if 0 ≤ (wrap64 (t435 + t436)) then (if (wrap64 (t435 + t436)) ≤ (wrap64 ((t429.size : Int) / 2)) then (if (wrap64 ((t429.size : Int) / 2)) ≤ (((t429.extract (t434 : Int).toNat t429.size) ++ (t429.extract 0 (t434 : Int).toNat)).size : Int) then ((impl_BackWord.f (((t429.extract (t434 : Int).toNat t429.size) ++ (t429.extract 0 (t434 : Int).toNat)).extract ((wrap64 (t435 + t436)) : Int).toNat ((wrap64 ((t429.size : Int) / 2)) : Int).toNat)).bind fun bt448 => (if bt444.2 = 0 then (if bt446.2 = 0 then (if bt448.2 = 0 then (if 0 ≤ (wrap64 ((t429.size : Int) / 2)) then (if bt444.1.size + bt446.1.size ≤ 9223372036854775807 then (if (bt444.1 ++ bt446.1).size + bt448.1.size ≤ 9223372036854775807 then (if (((t429.extract (t434 : Int).toNat t429.size) ++ (t429.extract 0 (t434 : Int).toNat)).extract ((wrap64 ((t429.size : Int) / 2)) : Int).toNat ((t429.extract (t434 : Int).toNat t429.size) ++ (t429.extract 0 (t434 : Int).toNat)).size).toList = ((bt444.1 ++ bt446.1) ++ bt448.1).toList then ((impl_IsFactoring.f kj7 t429 t430 t431 t432).bind fun t450 => (some t450)) else (some false)) else (none)) else (none)) else (none)) else (some false)) else (some false)) else (some false))) else (none)) else (none)) else (none))) else (none)) else (none))) else (none)) else (none)) else (none)) else (none)) else (none)) else (some true)) = some true := by first | (rw [if_neg (show ¬ (false = true) by decide)] at H; exact H) | rfl
  clear H
  have H := H1
  clear H1
  by_cases c22 : t433 = 0
  rotate_left
  ·rw [if_neg c22] at H
   have c22b0 : (t433 == 0) = false := beq_eq_false_iff_ne.mpr c22
   have c22b1 : (t433 != 0) = true := bne_iff_ne.mpr c22
   clear H
   go_wp2
   repeat (go_quiet (fail); try go_wp2)
   go_ret
   exact ⟨zE, zB⟩
  rw [if_pos c22] at H
  have c22b0 : (t433 == 0) = true := beq_iff_eq.mpr c22
  have c22b1 : (t433 != 0) = false := bne_eq_false_iff_eq.mpr c22
  clear c22
  by_cases c23 : 0 ≤ t434
  rotate_left
  ·rw [if_neg c23] at H
   exact absurd H (by simp)
  rw [if_pos c23] at H
  have c23b0 := eq_true c23
  have c23b1 : decide (0 ≤ t434) = true := decide_eq_true c23
  clear c23
  by_cases c24 : t434 ≤ (t429.size : Int)
  rotate_left
  ·rw [if_neg c24] at H
   exact absurd H (by simp)
  rw [if_pos c24] at H
  have c24b0 := eq_true c24
  have c24b1 : decide (t434 ≤ (t429.size : Int)) = true := decide_eq_true c24
  clear c24
  have c25b0 := eq_true (zD : 0 ≤ t434)
  have c26b0 := eq_true (zD : t434 ≤ (t429.size : Int))
  by_cases c27 : (t429.extract (t434 : Int).toNat t429.size).size + (t429.extract 0 (t434 : Int).toNat).size ≤ 9223372036854775807
  rotate_left
  ·rw [if_neg c27] at H
   exact absurd H (by simp)
  rw [if_pos c27] at H
  have c27b0 := eq_true c27
  have c27b1 : decide ((t429.extract (t434 : Int).toNat t429.size).size + (t429.extract 0 (t434 : Int).toNat).size ≤ 9223372036854775807) = true := decide_eq_true c27
  try have c27b2 : (9223372036854775807 < (t429.extract (t434 : Int).toNat t429.size).size + (t429.extract 0 (t434 : Int).toNat).size) = False := eq_false (Nat.not_lt.2 c27)
  try have c27b9 : (9223372036854775807 < t429.size) = False := eq_false (by have h9_ := c27; simp only [ByteArray.size_extract] at h9_; omega)
  by_cases c28 : 0 ≤ t435
  rotate_left
  ·rw [if_neg c28] at H
   exact absurd H (by simp)
  rw [if_pos c28] at H
  have c28b0 := eq_true c28
  have c28b1 : decide (0 ≤ t435) = true := decide_eq_true c28
  clear c28
  by_cases c29 : t435 ≤ (((t429.extract (t434 : Int).toNat t429.size) ++ (t429.extract 0 (t434 : Int).toNat)).size : Int)
  rotate_left
  ·rw [if_neg c29] at H
   exact absurd H (by simp)
  rw [if_pos c29] at H
  have c29b0 := eq_true c29
  have c29b1 : decide (t435 ≤ (((t429.extract (t434 : Int).toNat t429.size) ++ (t429.extract 0 (t434 : Int).toNat)).size : Int)) = true := decide_eq_true c29
  try have c29b9 : (t435 ≤ (t429.size : Int)) = True := eq_true (by have h9_ := c29; simp only [ByteArray.size_append, ByteArray.size_extract] at h9_; omega)
  try (have c29b7 : ((t429.extract (t434 : Int).toNat t429.size) ++ (t429.extract 0 (t434 : Int).toNat)).size = t429.size := (by simp only [ByteArray.size_append, ByteArray.size_extract]; omega); simp at c29b7)
  replace H := ob H
  obtain ⟨⟨t444, t445⟩, A300, H⟩ := H
  (try dsimp only at H)
  have A30 := am A300
  clear A300
  have c31b0 := eq_true (zD : 0 ≤ t435)
  by_cases c32 : t435 ≤ (wrap64 (t435 + t436))
  rotate_left
  ·rw [if_neg c32] at H
   exact absurd H (by simp)
  rw [if_pos c32] at H
  have c32b0 := eq_true c32
  have c32b1 : decide (t435 ≤ (wrap64 (t435 + t436))) = true := decide_eq_true c32
  by_cases c33 : (wrap64 (t435 + t436)) ≤ (((t429.extract (t434 : Int).toNat t429.size) ++ (t429.extract 0 (t434 : Int).toNat)).size : Int)
  rotate_left
  ·rw [if_neg c33] at H
   exact absurd H (by simp)
  rw [if_pos c33] at H
  have c33b0 := eq_true c33
  have c33b1 : decide ((wrap64 (t435 + t436)) ≤ (((t429.extract (t434 : Int).toNat t429.size) ++ (t429.extract 0 (t434 : Int).toNat)).size : Int)) = true := decide_eq_true c33
  try have c33b9 : ((wrap64 (t435 + t436)) ≤ (t429.size : Int)) = True := eq_true (by have h9_ := c33; simp only [ByteArray.size_append, ByteArray.size_extract] at h9_; omega)
  try (have c33b7 : ((t429.extract (t434 : Int).toNat t429.size) ++ (t429.extract 0 (t434 : Int).toNat)).size = t429.size := (by simp only [ByteArray.size_append, ByteArray.size_extract]; omega); simp at c33b7)
  replace H := ob H
  obtain ⟨⟨t446, t447⟩, A340, H⟩ := H
  (try dsimp only at H)
  have A34 := am A340
  clear A340
  obtain ⟨ji35, hji35⟩ : ∃ j_ : Int, (wrap64 (t435 + t436)) = j_ := ⟨_, rfl⟩
  (try rw [hji35] at c33b9)
  replace H : (if 0 ≤ (ji35) then (if (ji35) ≤ (wrap64 ((t429.size : Int) / 2)) then (if (wrap64 ((t429.size : Int) / 2)) ≤ (((t429.extract (t434 : Int).toNat t429.size) ++ (t429.extract 0 (t434 : Int).toNat)).size : Int) then ((impl_BackWord.f (((t429.extract (t434 : Int).toNat t429.size) ++ (t429.extract 0 (t434 : Int).toNat)).extract ((ji35) : Int).toNat ((wrap64 ((t429.size : Int) / 2)) : Int).toNat)).bind fun bt448 => (if t445 = 0 then (if t447 = 0 then (if bt448.2 = 0 then (if 0 ≤ (wrap64 ((t429.size : Int) / 2)) then (if t444.size + t446.size ≤ 9223372036854775807 then (if (t444 ++ t446).size + bt448.1.size ≤ 9223372036854775807 then (if (((t429.extract (t434 : Int).toNat t429.size) ++ (t429.extract 0 (t434 : Int).toNat)).extract ((wrap64 ((t429.size : Int) / 2)) : Int).toNat ((t429.extract (t434 : Int).toNat t429.size) ++ (t429.extract 0 (t434 : Int).toNat)).size).toList = ((t444 ++ t446) ++ bt448.1).toList then ((impl_IsFactoring.f kj7 t429 t430 t431 t432).bind fun t450 => (some t450)) else (some false)) else (none)) else (none)) else (none)) else (some false)) else (some false)) else (some false))) else (none)) else (none)) else (none)) = some true := by first | (rw [hji35] at H; exact H) | (simp only [hji35] at H ⊢; exact H)
  (try rw [hji35] at c32b0)
  (try rw [hji35] at c32b1)
  (try rw [hji35] at c32)
  (try rw [hji35] at c33b0)
  (try rw [hji35] at c33b1)
  (try rw [hji35] at c33)
  (try rw [hji35] at A30)
  (try rw [hji35] at A34)
  have hji35w : (IntKind.i64.wrap (t435 + t436)) = ji35 := (i64_w _).trans hji35
  by_cases c36 : 0 ≤ (ji35)
  rotate_left
  ·rw [if_neg c36] at H
   exact absurd H (by simp)
  rw [if_pos c36] at H
  have c36b0 := eq_true c36
  have c36b1 : decide (0 ≤ (ji35)) = true := decide_eq_true c36
  clear c36
  by_cases c37 : (ji35) ≤ (wrap64 ((t429.size : Int) / 2))
  rotate_left
  ·rw [if_neg c37] at H
   exact absurd H (by simp)
  rw [if_pos c37] at H
  have c37b0 := eq_true c37
  have c37b1 : decide ((ji35) ≤ (wrap64 ((t429.size : Int) / 2))) = true := decide_eq_true c37
  clear c37
  by_cases c38 : (wrap64 ((t429.size : Int) / 2)) ≤ (((t429.extract (t434 : Int).toNat t429.size) ++ (t429.extract 0 (t434 : Int).toNat)).size : Int)
  rotate_left
  ·rw [if_neg c38] at H
   exact absurd H (by simp)
  rw [if_pos c38] at H
  have c38b0 := eq_true c38
  have c38b1 : decide ((wrap64 ((t429.size : Int) / 2)) ≤ (((t429.extract (t434 : Int).toNat t429.size) ++ (t429.extract 0 (t434 : Int).toNat)).size : Int)) = true := decide_eq_true c38
  try have c38b9 : ((wrap64 ((t429.size : Int) / 2)) ≤ (t429.size : Int)) = True := eq_true (by have h9_ := c38; generalize (wrap64 ((t429.size : Int) / 2)) = q9_ at h9_ ⊢; simp only [ByteArray.size_append, ByteArray.size_extract] at h9_; omega)
  try (have c38b7 : ((t429.extract (t434 : Int).toNat t429.size) ++ (t429.extract 0 (t434 : Int).toNat)).size = t429.size := (by simp only [ByteArray.size_append, ByteArray.size_extract]; omega); simp at c38b7)
  replace H := ob H
  obtain ⟨⟨t448, t449⟩, A390, H⟩ := H
  (try dsimp only at H)
  have A39 := am A390
  clear A390
  by_cases c40 : t445 = 0
  rotate_left
  ·rw [if_neg c40] at H
   have c40b0 : (t445 == 0) = false := beq_eq_false_iff_ne.mpr c40
   have c40b1 : (t445 != 0) = true := bne_iff_ne.mpr c40
   exact absurd H (by simp)
  rw [if_pos c40] at H
  have c40b0 : (t445 == 0) = true := beq_iff_eq.mpr c40
  have c40b1 : (t445 != 0) = false := bne_eq_false_iff_eq.mpr c40
  clear c40
  by_cases c41 : t447 = 0
  rotate_left
  ·rw [if_neg c41] at H
   have c41b0 : (t447 == 0) = false := beq_eq_false_iff_ne.mpr c41
   have c41b1 : (t447 != 0) = true := bne_iff_ne.mpr c41
   exact absurd H (by simp)
  rw [if_pos c41] at H
  have c41b0 : (t447 == 0) = true := beq_iff_eq.mpr c41
  have c41b1 : (t447 != 0) = false := bne_eq_false_iff_eq.mpr c41
  clear c41
  by_cases c42 : t449 = 0
  rotate_left
  ·rw [if_neg c42] at H
   have c42b0 : (t449 == 0) = false := beq_eq_false_iff_ne.mpr c42
   have c42b1 : (t449 != 0) = true := bne_iff_ne.mpr c42
   exact absurd H (by simp)
  rw [if_pos c42] at H
  have c42b0 : (t449 == 0) = true := beq_iff_eq.mpr c42
  have c42b1 : (t449 != 0) = false := bne_eq_false_iff_eq.mpr c42
  clear c42
  obtain ⟨ji43, hji43⟩ : ∃ j_ : Int, (wrap64 ((t429.size : Int) / 2)) = j_ := ⟨_, rfl⟩
  (try rw [hji43] at c38b9)
  replace H : (if 0 ≤ (ji43) then (if t444.size + t446.size ≤ 9223372036854775807 then (if (t444 ++ t446).size + t448.size ≤ 9223372036854775807 then (if (((t429.extract (t434 : Int).toNat t429.size) ++ (t429.extract 0 (t434 : Int).toNat)).extract ((ji43) : Int).toNat ((t429.extract (t434 : Int).toNat t429.size) ++ (t429.extract 0 (t434 : Int).toNat)).size).toList = ((t444 ++ t446) ++ t448).toList then ((impl_IsFactoring.f kj7 t429 t430 t431 t432).bind fun t450 => (some t450)) else (some false)) else (none)) else (none)) else (none)) = some true := by first | (rw [hji43] at H; exact H) | (simp only [hji43] at H ⊢; exact H)
  (try rw [hji43] at c37b0)
  (try rw [hji43] at c37b1)
  (try rw [hji43] at c38b0)
  (try rw [hji43] at c38b1)
  (try rw [hji43] at c38)
  (try rw [hji43] at A30)
  (try rw [hji43] at A34)
  (try rw [hji43] at A39)
  have hji43w : (IntKind.i64.wrap ((t429.size : Int) / 2)) = ji43 := (i64_w _).trans hji43
  by_cases c44 : 0 ≤ (ji43)
  rotate_left
  ·rw [if_neg c44] at H
   exact absurd H (by simp)
  rw [if_pos c44] at H
  have c44b0 := eq_true c44
  have c44b1 : decide (0 ≤ (ji43)) = true := decide_eq_true c44
  clear c44
  have c45b0 := eq_true (zD : (ji43) ≤ (((t429.extract (t434 : Int).toNat t429.size) ++ (t429.extract 0 (t434 : Int).toNat)).size : Int))
  by_cases c46 : t444.size + t446.size ≤ 9223372036854775807
  rotate_left
  ·rw [if_neg c46] at H
   exact absurd H (by simp)
  rw [if_pos c46] at H
  have c46b0 := eq_true c46
  have c46b1 : decide (t444.size + t446.size ≤ 9223372036854775807) = true := decide_eq_true c46
  try have c46b2 : (9223372036854775807 < t444.size + t446.size) = False := eq_false (Nat.not_lt.2 c46)
  by_cases c47 : (t444 ++ t446).size + t448.size ≤ 9223372036854775807
  rotate_left
  ·rw [if_neg c47] at H
   exact absurd H (by simp)
  rw [if_pos c47] at H
  have c47b0 := eq_true c47
  have c47b1 : decide ((t444 ++ t446).size + t448.size ≤ 9223372036854775807) = true := decide_eq_true c47
  try have c47b2 : (9223372036854775807 < (t444 ++ t446).size + t448.size) = False := eq_false (Nat.not_lt.2 c47)
  try (have c47b8 := c47b2; simp only [ByteArray.size_append] at c47b8)
  by_cases c48 : (((t429.extract (t434 : Int).toNat t429.size) ++ (t429.extract 0 (t434 : Int).toNat)).extract ((ji43) : Int).toNat ((t429.extract (t434 : Int).toNat t429.size) ++ (t429.extract 0 (t434 : Int).toNat)).size).toList = ((t444 ++ t446) ++ t448).toList
  rotate_left
  ·rw [if_neg c48] at H
   have c48b0 : ((((t429.extract (t434 : Int).toNat t429.size) ++ (t429.extract 0 (t434 : Int).toNat)).extract ((ji43) : Int).toNat ((t429.extract (t434 : Int).toNat t429.size) ++ (t429.extract 0 (t434 : Int).toNat)).size).toList == ((t444 ++ t446) ++ t448).toList) = false := beq_eq_false_iff_ne.mpr c48
   try (have c485b0 := c48b0; rw [show ((t429.extract (t434 : Int).toNat t429.size) ++ (t429.extract 0 (t434 : Int).toNat)).size = t429.size from (by simp only [ByteArray.size_append, ByteArray.size_extract]; omega)] at c485b0)
   have c48b1 : ((((t429.extract (t434 : Int).toNat t429.size) ++ (t429.extract 0 (t434 : Int).toNat)).extract ((ji43) : Int).toNat ((t429.extract (t434 : Int).toNat t429.size) ++ (t429.extract 0 (t434 : Int).toNat)).size).toList != ((t444 ++ t446) ++ t448).toList) = true := bne_iff_ne.mpr c48
   try (have c485b1 := c48b1; rw [show ((t429.extract (t434 : Int).toNat t429.size) ++ (t429.extract 0 (t434 : Int).toNat)).size = t429.size from (by simp only [ByteArray.size_append, ByteArray.size_extract]; omega)] at c485b1)
   exact absurd H (by simp)
  rw [if_pos c48] at H
  have c48b0 : ((((t429.extract (t434 : Int).toNat t429.size) ++ (t429.extract 0 (t434 : Int).toNat)).extract ((ji43) : Int).toNat ((t429.extract (t434 : Int).toNat t429.size) ++ (t429.extract 0 (t434 : Int).toNat)).size).toList == ((t444 ++ t446) ++ t448).toList) = true := beq_iff_eq.mpr c48
  try (have c485b0 := c48b0; rw [show ((t429.extract (t434 : Int).toNat t429.size) ++ (t429.extract 0 (t434 : Int).toNat)).size = t429.size from (by simp only [ByteArray.size_append, ByteArray.size_extract]; omega)] at c485b0)
  have c48b1 : ((((t429.extract (t434 : Int).toNat t429.size) ++ (t429.extract 0 (t434 : Int).toNat)).extract ((ji43) : Int).toNat ((t429.extract (t434 : Int).toNat t429.size) ++ (t429.extract 0 (t434 : Int).toNat)).size).toList != ((t444 ++ t446) ++ t448).toList) = false := bne_eq_false_iff_eq.mpr c48
  try (have c485b1 := c48b1; rw [show ((t429.extract (t434 : Int).toNat t429.size) ++ (t429.extract 0 (t434 : Int).toNat)).size = t429.size from (by simp only [ByteArray.size_append, ByteArray.size_extract]; omega)] at c485b1)
  clear c48
  replace H := ob H
  obtain ⟨t450, A490, H⟩ := H
  (try dsimp only at H)
  have A49 := am A490
  clear A490
  have HR := oi H
  clear H
  go_wp2_with (first | (go_at_call 14; (with_reducible refine (impl_BackWord.calls (((t429.extract (t434 : Int).toNat t429.size) ++ (t429.extract 0 (t434 : Int).toNat)).extract 0 (t435 : Int).toNat) t444 t445 _ A30.out).mono ?_); rintro e w50 ⟨rfl, hb⟩; have n0_ := am (Bb6 zB hb); clear HB; have HB := n0_; clear n0_; (try clear hb); (try clear hb2); (try clear hk); (try clear hi)) | (go_at_call 14; (with_reducible refine (impl_BackWord.calls (((t429.extract (t434 : Int).toNat t429.size) ++ (t429.extract 0 (t434 : Int).toNat)).extract (t435 : Int).toNat ((ji35) : Int).toNat) t446 t447 _ A34.out).mono ?_); rintro e w51 ⟨rfl, hb⟩; have n0_ := am (Bb6 zB hb); clear HB; have HB := n0_; clear n0_; (try clear hb); (try clear hb2); (try clear hk); (try clear hi)) | (go_at_call 14; (with_reducible refine (impl_BackWord.calls (((t429.extract (t434 : Int).toNat t429.size) ++ (t429.extract 0 (t434 : Int).toNat)).extract ((ji35) : Int).toNat ((ji43) : Int).toNat) t448 t449 _ A39.out).mono ?_); rintro e w52 ⟨rfl, hb⟩; have n0_ := am (Bb6 zB hb); clear HB; have HB := n0_; clear n0_; (try clear hb); (try clear hb2); (try clear hk); (try clear hi)) | (go_at_call 20; (with_reducible refine (impl_IsFactoring.calls kj7 t429 t430 t431 t432 t450 _ A49.out).mono ?_); rintro e w53 ⟨rfl, hb⟩; have n0_ := am (Bb6 zB hb); clear HB; have HB := n0_; clear n0_; (try clear hb); (try clear hb2); (try clear hk); (try clear hi)))
  repeat (go_quiet (first | (go_at_call 14; (with_reducible refine (impl_BackWord.calls (((t429.extract (t434 : Int).toNat t429.size) ++ (t429.extract 0 (t434 : Int).toNat)).extract 0 (t435 : Int).toNat) t444 t445 _ A30.out).mono ?_); rintro e w50 ⟨rfl, hb⟩; have n0_ := am (Bb6 zB hb); clear HB; have HB := n0_; clear n0_; (try clear hb); (try clear hb2); (try clear hk); (try clear hi)) | (go_at_call 14; (with_reducible refine (impl_BackWord.calls (((t429.extract (t434 : Int).toNat t429.size) ++ (t429.extract 0 (t434 : Int).toNat)).extract (t435 : Int).toNat ((ji35) : Int).toNat) t446 t447 _ A34.out).mono ?_); rintro e w51 ⟨rfl, hb⟩; have n0_ := am (Bb6 zB hb); clear HB; have HB := n0_; clear n0_; (try clear hb); (try clear hb2); (try clear hk); (try clear hi)) | (go_at_call 14; (with_reducible refine (impl_BackWord.calls (((t429.extract (t434 : Int).toNat t429.size) ++ (t429.extract 0 (t434 : Int).toNat)).extract ((ji35) : Int).toNat ((ji43) : Int).toNat) t448 t449 _ A39.out).mono ?_); rintro e w52 ⟨rfl, hb⟩; have n0_ := am (Bb6 zB hb); clear HB; have HB := n0_; clear n0_; (try clear hb); (try clear hb2); (try clear hk); (try clear hi)) | (go_at_call 20; (with_reducible refine (impl_IsFactoring.calls kj7 t429 t430 t431 t432 t450 _ A49.out).mono ?_); rintro e w53 ⟨rfl, hb⟩; have n0_ := am (Bb6 zB hb); clear HB; have HB := n0_; clear n0_; (try clear hb); (try clear hb2); (try clear hk); (try clear hi))); try go_wp2_with (first | (go_at_call 14; (with_reducible refine (impl_BackWord.calls (((t429.extract (t434 : Int).toNat t429.size) ++ (t429.extract 0 (t434 : Int).toNat)).extract 0 (t435 : Int).toNat) t444 t445 _ A30.out).mono ?_); rintro e w50 ⟨rfl, hb⟩; have n0_ := am (Bb6 zB hb); clear HB; have HB := n0_; clear n0_; (try clear hb); (try clear hb2); (try clear hk); (try clear hi)) | (go_at_call 14; (with_reducible refine (impl_BackWord.calls (((t429.extract (t434 : Int).toNat t429.size) ++ (t429.extract 0 (t434 : Int).toNat)).extract (t435 : Int).toNat ((ji35) : Int).toNat) t446 t447 _ A34.out).mono ?_); rintro e w51 ⟨rfl, hb⟩; have n0_ := am (Bb6 zB hb); clear HB; have HB := n0_; clear n0_; (try clear hb); (try clear hb2); (try clear hk); (try clear hi)) | (go_at_call 14; (with_reducible refine (impl_BackWord.calls (((t429.extract (t434 : Int).toNat t429.size) ++ (t429.extract 0 (t434 : Int).toNat)).extract ((ji35) : Int).toNat ((ji43) : Int).toNat) t448 t449 _ A39.out).mono ?_); rintro e w52 ⟨rfl, hb⟩; have n0_ := am (Bb6 zB hb); clear HB; have HB := n0_; clear n0_; (try clear hb); (try clear hb2); (try clear hk); (try clear hi)) | (go_at_call 20; (with_reducible refine (impl_IsFactoring.calls kj7 t429 t430 t431 t432 t450 _ A49.out).mono ?_); rintro e w53 ⟨rfl, hb⟩; have n0_ := am (Bb6 zB hb); clear HB; have HB := n0_; clear n0_; (try clear hb); (try clear hb2); (try clear hk); (try clear hi))))
  go_ret
  exact ⟨by first | rfl | (simp [errW_none, errW_some] <;> rfl) | (simp only [← hji35, ← hji43]; first | rfl | (simp [errW_none, errW_some] <;> rfl)) | (simp [*, errW_none, errW_some] <;> rfl), zB⟩

end Go.Proofs.YtcgnnfaemjjljaaDoor.Q
