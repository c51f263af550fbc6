/- Written by a program of this session (wip/tools/pp.py) out of the translation, with the kit's printer. -/
import Derived.Test.YtcgnnfaemjjljaaDoorQ0
import Derived.Test.YtcgnnfaemjjljaaDoorQ15
import Derived.Test.YtcgnnfaemjjljaaDoorQ17
import Derived.Test.YtcgnnfaemjjljaaDoorQGspecl01From
import Derived.Test.YtcgnnfaemjjljaaDoorQGspecl01Next
import Derived.Test.YtcgnnfaemjjljaaDoorQ32
namespace Go.Proofs.YtcgnnfaemjjljaaDoor.Q
open Go.RowKit Go.Proofs.YtcgnnfaemjjljaaDoorW.PrintWords Go.Proofs.YtcgnnfaemjjljaaDoorW.PrintLast Go.Proofs.YtcgnnfaemjjljaaDoorW.PrintMore
attribute [local go_sem] max2_int min2_int max_two min_two max_three min_three max_four min_four
set_option linter.unusedVariables false
set_option linter.unusedSimpArgs false

/-! ### spec_DrawFindFactoring: function 26 -/
def spec_DrawFindFactoring.f (k : Nat) (l0 : List Int) : Option (ByteArray) := (spec_l01From.f l0).bind fun bt394 => ((spec_l23Draw.f k bt394.1 bt394.2.1 bt394.2.2).bind fun bt398 => (if (bt398.1.size : Int) > 40 then (some (⟨#[114, 100, 108, 117]⟩ : ByteArray)) else (some bt398.1)))
theorem spec_DrawFindFactoring.mono : ∀ a0 k, LeO (spec_DrawFindFactoring.f k a0) (spec_DrawFindFactoring.f (k + 1) a0) := by
 intro a0 k
 unfold spec_DrawFindFactoring.f
 repeat' first
   | (with_reducible exact spec_l23Draw.mono _ _ _ _)
   | (with_reducible exact LeO.refl _)
   | (with_reducible exact LeO.none _)
   | (with_reducible refine LeO.ite ?_ ?_)
   | (with_reducible refine LeO.bind ?_ (fun _ => ?_))
   | exact spec_l23Draw.mono _ _ _ _
   | exact LeO.none _
   | refine LeO.ite ?_ ?_
   | refine LeO.bind ?_ (fun _ => ?_)
set_option maxHeartbeats 8000000 in
set_option maxRecDepth 100000 in
theorem spec_DrawFindFactoring.calls (k : Nat) (A0 : Option Addr) (c0 : Nat) (l0 : List Int) (r : ByteArray) (w : World) (hr0 : Kd.C (Kd.int .u8) w A0 l0.length l0) (hc0 : l0.length ≤ c0) (h : spec_DrawFindFactoring.f k l0 = some r) :
  Calls Tryd.prog 26 #[.slice A0 l0.length c0] w fun e w' => e = .returned (.string r) ∧ Below w.heap.size w w' := by
 have HR0 := am hr0
 have HC0 := am hc0
 clear hr0 hc0
 have HB := am (Below.refl w.heap.size w)
 have H : ((spec_l01From.f l0).bind fun bt394 => ((spec_l23Draw.f k bt394.1 bt394.2.1 bt394.2.2).bind fun bt398 => (if (bt398.1.size : Int) > 40 then (some (⟨#[114, 100, 108, 117]⟩ : ByteArray)) else (some bt398.1)))) = some r := h
 clear h
 replace H := ob H
 obtain ⟨⟨t394, t395, t396⟩, A20, H⟩ := H
 (try dsimp only at H)
 have A2 := am A20
 clear A20
 replace H := ob H
 obtain ⟨⟨t398, t399, t400⟩, A30, H⟩ := H
 (try dsimp only at H)
 have A3 := am A30
 clear A30
 by_cases c4 : (t398.size : Int) > 40
 ·rw [if_pos c4] at H
  have c4b0 : decide (40 < (t398.size : Int)) = true := decide_eq_true c4
  have c4b1 : decide (40 < t398.size) = true := decide_eq_true (by omega)
  clear c4
  obtain rfl := oi H
  go_enter Tryd.func26, Tryd.ntmps26
  go_wp2_with (first | ((with_reducible refine gate_callee (f := 42) rfl ?_); refine goesL_ (some 6) rfl rfl Tryd.func42 (by kernel_rfl) rfl #[.slice A0 l0.length c0] rfl zL ?_; (with_reducible refine (spec_l01From.calls _ _ l0 t394 t395 t396 w _ ?side1 ?side2 ?side3 A2.out).mono ?_); (case side1 => repeat (first | (with_reducible first | exact HB.out | apply Bb1 | apply Bb2 | apply Bb3) | exact HB.out)); (case side2 => exact HR0.out); (case side3 => exact HC0.out); rintro e w5 ⟨g397, rfl, hi, hb, hb2⟩; refine ⟨_, rfl, ?_⟩; have n0_ := am (hb); have n1_ := am (hi); clear HB; have HB := n0_; have HI397 := n1_; clear n0_ n1_; (try clear hb); (try clear hb2); (try clear hk); (try clear hi)) | ((with_reducible refine gate_callee (f := 43) rfl ?_); refine goesL_ (some 8) rfl rfl Tryd.func43 (by kernel_rfl) rfl #[.pointer (some ⟨g397, 0, none⟩)] rfl zL ?_; (with_reducible refine (spec_l23Draw.calls k g397 t394 t395 t396 t398 t399 t400 w _ ?side1 ?side2 A3.out).mono ?_); (case side1 => repeat (first | (with_reducible first | exact HI397.out | apply IsS60.alloc | apply IsS60.drewN | apply IsS60.drew | apply IsS60.set_1 | apply IsS60.set_2) | exact HI397.out)); (case side2 => repeat (first | (with_reducible first | exact HB.out | apply Bb1 | apply Bb2 | apply Bb3 | refine Bb4 ?_ (IsS60.ge HI397.out)) | exact HB.out)); rintro e w6 ⟨rfl, hi, hb, hk⟩; refine ⟨_, rfl, ?_⟩; have n0_ := am (hb); have n1_ := am (hi); clear HB; clear HI397; have HB := n0_; have HI397 := n1_; clear n0_ n1_; (try clear hb); (try clear hb2); (try clear hk); (try clear hi)))
  go_ret
  exact ⟨zE, by repeat (first | (with_reducible first | exact HB.out | apply Bb1 | apply Bb2 | apply Bb3 | refine Bb4 ?_ (IsS60.ge HI397.out)) | exact HB.out)⟩
 rw [if_neg c4] at H
 have c4b0 : decide (40 < (t398.size : Int)) = false := decide_eq_false c4
 have c4b1 : decide (40 < t398.size) = false := decide_eq_false (by omega)
 clear c4
 obtain rfl := oi H
 go_enter Tryd.func26, Tryd.ntmps26
 go_wp2_with (first | ((with_reducible refine gate_callee (f := 42) rfl ?_); refine goesL_ (some 6) rfl rfl Tryd.func42 (by kernel_rfl) rfl #[.slice A0 l0.length c0] rfl zL ?_; (with_reducible refine (spec_l01From.calls _ _ l0 t394 t395 t396 w _ ?side1 ?side2 ?side3 A2.out).mono ?_); (case side1 => repeat (first | (with_reducible first | exact HB.out | apply Bb1 | apply Bb2 | apply Bb3) | exact HB.out)); (case side2 => exact HR0.out); (case side3 => exact HC0.out); rintro e w7 ⟨g397, rfl, hi, hb, hb2⟩; refine ⟨_, rfl, ?_⟩; have n0_ := am (hb); have n1_ := am (hi); clear HB; have HB := n0_; have HI397 := n1_; clear n0_ n1_; (try clear hb); (try clear hb2); (try clear hk); (try clear hi)) | ((with_reducible refine gate_callee (f := 43) rfl ?_); refine goesL_ (some 8) rfl rfl Tryd.func43 (by kernel_rfl) rfl #[.pointer (some ⟨g397, 0, none⟩)] rfl zL ?_; (with_reducible refine (spec_l23Draw.calls k g397 t394 t395 t396 t398 t399 t400 w _ ?side1 ?side2 A3.out).mono ?_); (case side1 => repeat (first | (with_reducible first | exact HI397.out | apply IsS60.alloc | apply IsS60.drewN | apply IsS60.drew | apply IsS60.set_1 | apply IsS60.set_2) | exact HI397.out)); (case side2 => repeat (first | (with_reducible first | exact HB.out | apply Bb1 | apply Bb2 | apply Bb3 | refine Bb4 ?_ (IsS60.ge HI397.out)) | exact HB.out)); rintro e w8 ⟨rfl, hi, hb, hk⟩; refine ⟨_, rfl, ?_⟩; have n0_ := am (hb); have n1_ := am (hi); clear HB; clear HI397; have HB := n0_; have HI397 := n1_; clear n0_ n1_; (try clear hb); (try clear hb2); (try clear hk); (try clear hi)))
 go_ret
 exact ⟨zE, by repeat (first | (with_reducible first | exact HB.out | apply Bb1 | apply Bb2 | apply Bb3 | refine Bb4 ?_ (IsS60.ge HI397.out)) | exact HB.out)⟩

/-! ### spec_DrawIsFactoring: function 27 -/
def spec_DrawIsFactoring.j0 : Nat → ByteArray → Int → Int → Int → Bool → List Int → Int → Int → Option (ByteArray × Int × Int × Int)
 | 0, _, _, _, _, _, _, _, _ => none
 | k + 1, x7, x8, x9, x10, x29, x405000, x405001, x405002 => if x29 = true then ((spec_l01Next.f x405000 x405001 x405002 6).bind fun bt413 => ((spec_l01Next.f x405000 bt413.2.1 bt413.2.2 12).bind fun bt416 => ((spec_l01Next.f x405000 bt416.2.1 bt416.2.2 4).bind fun bt419 => ((spec_l01Next.f x405000 bt419.2.1 bt419.2.2 4).bind fun bt422 => ((spec_l01Next.f x405000 bt422.2.1 bt422.2.2 12).bind fun bt425 => (some (x7, wrap64 (bt413.1 - (wrap64 (Int.tdiv bt416.1 11))), bt419.1, wrap64 (bt422.1 - (wrap64 (Int.tdiv bt425.1 11)))))))))) else (some (x7, x8, x9, x10))
def spec_DrawIsFactoring.f (k : Nat) (l0 : List Int) : Option (ByteArray × Int × Int × Int) := (spec_l01From.f l0).bind fun bt401 => ((spec_DrawFindFactoring.f k l0).bind fun t405 => ((spec_FindFactoring.f k t405).bind fun bt406 => (if bt406.2.2.2 = 0 then ((spec_l01Next.f bt401.1 bt401.2.1 bt401.2.2 3).bind fun bt410 => (spec_DrawIsFactoring.j0 k t405 bt406.1 bt406.2.1 bt406.2.2.1 (bt410.1 == 0) bt401.1 bt410.2.1 bt410.2.2)) else (spec_DrawIsFactoring.j0 k t405 bt406.1 bt406.2.1 bt406.2.2.1 true bt401.1 bt401.2.1 bt401.2.2))))
theorem spec_DrawIsFactoring.mono_l : ∀ k, (∀ y0 y1 y2 y3 y4 y5 y6 y7, LeO (spec_DrawIsFactoring.j0 k y0 y1 y2 y3 y4 y5 y6 y7) (spec_DrawIsFactoring.j0 (k + 1) y0 y1 y2 y3 y4 y5 y6 y7))
 | 0 => fun _ _ _ _ _ _ _ _ r h => by simp [spec_DrawIsFactoring.j0] at h
 | k + 1 => by
  have ih0 := spec_DrawIsFactoring.mono_l k
  ·intro y0 y1 y2 y3 y4 y5 y6 y7
   unfold spec_DrawIsFactoring.j0
   repeat' first
   | (with_reducible exact ih0 _ _ _ _ _ _ _ _)
   | (with_reducible exact spec_DrawFindFactoring.mono _ _)
   | (with_reducible exact spec_FindFactoring.mono _ _)
   | (with_reducible exact LeO.refl _)
   | (with_reducible exact LeO.none _)
   | (with_reducible refine LeO.ite ?_ ?_)
   | (with_reducible refine LeO.bind ?_ (fun _ => ?_))
   | exact ih0 _ _ _ _ _ _ _ _
   | exact spec_DrawFindFactoring.mono _ _
   | exact spec_FindFactoring.mono _ _
   | exact LeO.none _
   | refine LeO.ite ?_ ?_
   | refine LeO.bind ?_ (fun _ => ?_)
theorem spec_DrawIsFactoring.mono : ∀ a0 k, LeO (spec_DrawIsFactoring.f k a0) (spec_DrawIsFactoring.f (k + 1) a0) := by
 intro a0 k
 have ih0 := spec_DrawIsFactoring.mono_l k
 unfold spec_DrawIsFactoring.f
 repeat' first
   | (with_reducible exact ih0 _ _ _ _ _ _ _ _)
   | (with_reducible exact spec_DrawFindFactoring.mono _ _)
   | (with_reducible exact spec_FindFactoring.mono _ _)
   | (with_reducible exact LeO.refl _)
   | (with_reducible exact LeO.none _)
   | (with_reducible refine LeO.ite ?_ ?_)
   | (with_reducible refine LeO.bind ?_ (fun _ => ?_))
   | exact ih0 _ _ _ _ _ _ _ _
   | exact spec_DrawFindFactoring.mono _ _
   | exact spec_FindFactoring.mono _ _
   | exact LeO.none _
   | refine LeO.ite ?_ ?_
   | refine LeO.bind ?_ (fun _ => ?_)
set_option maxHeartbeats 8000000 in
set_option maxRecDepth 100000 in
theorem spec_DrawIsFactoring.calls (k : Nat) (A0 : Option Addr) (c0 : Nat) (l0 : List Int) (r1 : ByteArray) (r2 : Int) (r3 : Int) (r4 : Int) (w : World) (hr0 : Kd.C (Kd.int .u8) w A0 l0.length l0) (hc0 : l0.length ≤ c0) (h : spec_DrawIsFactoring.f k l0 = some (r1, r2, r3, r4)) :
  Calls Tryd.prog 27 #[.slice A0 l0.length c0] w fun e w' => e = .returned (.tuple #[.string r1, .int .i64 r2, .int .i64 r3, .int .i64 r4]) ∧ Below w.heap.size w w' := by
 have HR0 := am hr0
 have HC0 := am hc0
 clear hr0 hc0
 have HB := am (Below.refl w.heap.size w)
 have H : ((spec_l01From.f l0).bind fun bt401 => ((spec_DrawFindFactoring.f k l0).bind fun t405 => ((spec_FindFactoring.f k t405).bind fun bt406 => (if bt406.2.2.2 = 0 then ((spec_l01Next.f bt401.1 bt401.2.1 bt401.2.2 3).bind fun bt410 => (spec_DrawIsFactoring.j0 k t405 bt406.1 bt406.2.1 bt406.2.2.1 (bt410.1 == 0) bt401.1 bt410.2.1 bt410.2.2)) else (spec_DrawIsFactoring.j0 k t405 bt406.1 bt406.2.1 bt406.2.2.1 true bt401.1 bt401.2.1 bt401.2.2))))) = some (r1, r2, r3, r4) := h
 clear h
 replace H := ob H
 obtain ⟨⟨t401, t402, t403⟩, A20, H⟩ := H
 (try dsimp only at H)
 have A2 := am A20
 clear A20
 replace H := ob H
 obtain ⟨t405, A30, H⟩ := H
 (try dsimp only at H)
 have A3 := am A30
 clear A30
 replace H := ob H
 obtain ⟨⟨t406, t407, t408, t409⟩, A40, H⟩ := H
 (try dsimp only at H)
 have A4 := am A40
 clear A40
 have HC5 := am H
 clear H
 go_enter Tryd.func27, Tryd.ntmps27
 go_upto_region 4 with (first | ((with_reducible refine gate_callee (f := 42) rfl ?_); refine goesL_ (some 13) rfl rfl Tryd.func42 (by kernel_rfl) rfl #[.slice A0 l0.length c0] rfl zL ?_; (with_reducible refine (spec_l01From.calls _ _ l0 t401 t402 t403 w _ ?side1 ?side2 ?side3 A2.out).mono ?_); (case side1 => repeat (first | (with_reducible first | exact HB.out | apply Bb1 | apply Bb2 | apply Bb3) | exact HB.out)); (case side2 => exact HR0.out); (case side3 => exact HC0.out); rintro e w6 ⟨g404, rfl, hi, hb, hb2⟩; refine ⟨_, rfl, ?_⟩; have n0_ := am (hb); have n1_ := am (hi); clear HB; have HB := n0_; have HI404 := n1_; clear n0_ n1_; (try clear hb); (try clear hb2); (try clear hk); (try clear hi)) | ((with_reducible refine gate_callee (f := 26) rfl ?_); refine goesL_ (some 15) rfl rfl Tryd.func26 (by kernel_rfl) rfl #[.slice A0 l0.length c0] rfl zL ?_; (with_reducible refine (spec_DrawFindFactoring.calls k _ _ l0 t405 _ ?side1 ?side2 A3.out).mono ?_); (case side1 => repeat (first | exact (Kd.C_below HR0.out HB.out) | (with_reducible refine Kd.C_alloc ?_ _) | (with_reducible refine Kd.C_drewN ?_ _) | (with_reducible refine Kd.C_drew ?_))); (case side2 => exact HC0.out); rintro e w7 ⟨rfl, hb⟩; refine ⟨_, rfl, ?_⟩; have n0_ := am (IsS60.below (by repeat (first | (with_reducible first | exact HI404.out | apply IsS60.alloc | apply IsS60.drewN | apply IsS60.drew | apply IsS60.set_1 | apply IsS60.set_2) | exact HI404.out)) hb); have n1_ := am (Bb6 (by repeat (first | (with_reducible first | exact HB.out | apply Bb1 | apply Bb2 | apply Bb3 | refine Bb4 ?_ (IsS60.ge HI404.out)) | exact HB.out)) hb); clear HI404; clear HB; have HI404 := n0_; have HB := n1_; clear n0_ n1_; (try clear hb); (try clear hb2); (try clear hk); (try clear hi)) | ((with_reducible refine gate_callee (f := 21) rfl ?_); refine goesL_ (some 18) rfl rfl Tryd.func21 (by kernel_rfl) rfl #[.string t405] rfl zL ?_; (with_reducible refine (spec_FindFactoring.calls k t405 t406 t407 t408 t409 _ A4.out).mono ?_); rintro e w8 ⟨rfl, hb⟩; refine ⟨_, rfl, ?_⟩; have n0_ := am (IsS60.below (by repeat (first | (with_reducible first | exact HI404.out | apply IsS60.alloc | apply IsS60.drewN | apply IsS60.drew | apply IsS60.set_1 | apply IsS60.set_2) | exact HI404.out)) hb); have n1_ := am (Bb6 (by repeat (first | (with_reducible first | exact HB.out | apply Bb1 | apply Bb2 | apply Bb3 | refine Bb4 ?_ (IsS60.ge HI404.out)) | exact HB.out)) hb); clear HI404; clear HB; have HI404 := n0_; have HB := n1_; clear n0_ n1_; (try clear hb); (try clear hb2); (try clear hk); (try clear hi)))
 (try simp only [Act.put, sa])
 go_cut [29] (fun v29 wc => ∃ (kq : Nat) (x29_4 : Bool) (x405001_4 : Int) (x405002_4 : Int), v29 = .bool x29_4 ∧ Aside0 (spec_DrawIsFactoring.j0 kq t405 t406 t407 t408 x29_4 t401 x405001_4 x405002_4 = some (r1, r2, r3, r4)) ∧ Aside0 (kq ≤ k) ∧ Aside0 (IsS60 w wc g404 t401 x405001_4 x405002_4) ∧ Aside0 (Below w.heap.size w wc))
 case first =>
  have H := HC5.out
  clear HC5
  by_cases c9 : t409 = 0
  rotate_left
  ·rw [if_neg c9] at H
   have c9b0 : (t409 == 0) = false := beq_eq_false_iff_ne.mpr c9
   have c9b1 : (t409 != 0) = true := bne_iff_ne.mpr c9
   (first | rw [c9b0] | (simp only [i64_w, i32_w]; rw [c9b0]) | skip)
   have H' := am H
   clear H
   go_wp2
   go_meet
   case rel => exact ⟨_, (true), (t402), (t403), zS, H', ⟨by first | omega | exact Nat.le_refl _⟩, ⟨by repeat (first | (with_reducible first | exact HI404.out | apply IsS60.alloc | apply IsS60.drewN | apply IsS60.drew | apply IsS60.set_1 | apply IsS60.set_2) | exact HI404.out)⟩, ⟨by repeat (first | (with_reducible first | exact HB.out | apply Bb1 | apply Bb2 | apply Bb3 | refine Bb4 ?_ (IsS60.ge HI404.out)) | exact HB.out)⟩⟩
  rw [if_pos c9] at H
  have c9b0 : (t409 == 0) = true := beq_iff_eq.mpr c9
  have c9b1 : (t409 != 0) = false := bne_eq_false_iff_eq.mpr c9
  clear c9
  (first | rw [c9b0] | (simp only [i64_w, i32_w]; rw [c9b0]) | skip)
  replace H := ob H
  obtain ⟨⟨t410, t411, t412⟩, A100, H⟩ := H
  (try dsimp only at H)
  have A10 := am A100
  clear A100
  have H' := am H
  clear H
  go_wp2_with (first | (go_at_call 44; (with_reducible refine (spec_l01Next.calls g404 t401 t402 t403 3 t410 t411 t412 w _ ?side1 ?side2 A10.out).mono ?_); (case side1 => repeat (first | (with_reducible first | exact HI404.out | apply IsS60.alloc | apply IsS60.drewN | apply IsS60.drew | apply IsS60.set_1 | apply IsS60.set_2) | exact HI404.out)); (case side2 => repeat (first | (with_reducible first | exact HB.out | apply Bb1 | apply Bb2 | apply Bb3 | refine Bb4 ?_ (IsS60.ge HI404.out)) | exact HB.out)); rintro e w11 ⟨rfl, hi, hb, hk⟩; have n0_ := am (hb); have n1_ := am (hi); clear HB; clear HI404; have HB := n0_; have HI404 := n1_; clear n0_ n1_; (try clear hb); (try clear hb2); (try clear hk); (try clear hi)))
  go_meet
  case rel => exact ⟨_, ((t410 == 0)), (t411), (t412), zS, H', ⟨by first | omega | exact Nat.le_refl _⟩, ⟨by repeat (first | (with_reducible first | exact HI404.out | apply IsS60.alloc | apply IsS60.drewN | apply IsS60.drew | apply IsS60.set_1 | apply IsS60.set_2) | exact HI404.out)⟩, ⟨by repeat (first | (with_reducible first | exact HB.out | apply Bb1 | apply Bb2 | apply Bb3 | refine Bb4 ?_ (IsS60.ge HI404.out)) | exact HB.out)⟩⟩
 clear HC5
 try clear c2
 try clear p2
 try clear c4
 try clear c9
 try clear c9b0
 try clear c9b1
 obtain ⟨kq, x29_4, x405001_4, x405002_4, rfl, HA, HJ4, HI404, HB⟩ := hcut
 cases kq with
 | zero => exact absurd HA.out (by simp [spec_DrawIsFactoring.j0])
 | succ kj4 =>
  have H := HA.out
  clear HA
  simp only [spec_DrawIsFactoring.j0] at H
  by_cases c12 : x29_4 = true
  rotate_left
  ·replace c12 := ef c12
   subst c12
   have H1 : (some (t405, t406, t407, t408)) = some (r1, r2, r3, r4) := by first | (rw [if_neg (show ¬ (false = true) by decide)] at H; exact H) | rfl
   clear H
   have H := H1
   clear H1
   simp only [Option.some.injEq, Prod.mk.injEq] at H
   obtain ⟨rfl, rfl, rfl, rfl⟩ := H
   go_wp2
   refine bodyPost_ret (results_list (rs := [.tmp 2, .tmp 3, .tmp 4, .tmp 5]) rfl (by simp) (.tmp (.tmp (.tmp (.tmp .nil))))) rfl ?_
   exact ⟨zE, by repeat (first | (with_reducible first | exact HB.out | apply Bb1 | apply Bb2 | apply Bb3 | refine Bb4 ?_ (IsS60.ge HI404.out)) | exact HB.out)⟩
  subst c12
  have H1 : ((spec_l01Next.f t401 x405001_4 x405002_4 6).bind fun bt413 => ((spec_l01Next.f t401 bt413.2.1 bt413.2.2 12).bind fun bt416 => ((spec_l01Next.f t401 bt416.2.1 bt416.2.2 4).bind fun bt419 => ((spec_l01Next.f t401 bt419.2.1 bt419.2.2 4).bind fun bt422 => ((spec_l01Next.f t401 bt422.2.1 bt422.2.2 12).bind fun bt425 => (some (t405, wrap64 (bt413.1 - (wrap64 (Int.tdiv bt416.1 11))), bt419.1, wrap64 (bt422.1 - (wrap64 (Int.tdiv bt425.1 11)))))))))) = some (r1, r2, r3, r4) := by first | (rw [if_pos rfl] at H; exact H) | rfl
  clear H
  have H := H1
  clear H1
  replace H := ob H
  obtain ⟨⟨t413, t414, t415⟩, A130, H⟩ := H
  (try dsimp only at H)
  have A13 := am A130
  clear A130
  replace H := ob H
  obtain ⟨⟨t416, t417, t418⟩, A140, H⟩ := H
  (try dsimp only at H)
  have A14 := am A140
  clear A140
  replace H := ob H
  obtain ⟨⟨t419, t420, t421⟩, A150, H⟩ := H
  (try dsimp only at H)
  have A15 := am A150
  clear A150
  replace H := ob H
  obtain ⟨⟨t422, t423, t424⟩, A160, H⟩ := H
  (try dsimp only at H)
  have A16 := am A160
  clear A160
  replace H := ob H
  obtain ⟨⟨t425, t426, t427⟩, A170, H⟩ := H
  (try dsimp only at H)
  have A17 := am A170
  clear A170
  simp only [Option.some.injEq, Prod.mk.injEq] at H
  obtain ⟨rfl, rfl, rfl, rfl⟩ := H
  go_wp2_with (first | ((with_reducible refine gate_callee (f := 44) rfl ?_); refine goesL_ (some 32) rfl rfl Tryd.func44 (by kernel_rfl) rfl #[.pointer (some ⟨g404, 0, none⟩), .int .i64 6] rfl zL ?_; (with_reducible refine (spec_l01Next.calls g404 t401 x405001_4 x405002_4 6 t413 t414 t415 w _ ?side1 ?side2 A13.out).mono ?_); (case side1 => repeat (first | (with_reducible first | exact HI404.out | apply IsS60.alloc | apply IsS60.drewN | apply IsS60.drew | apply IsS60.set_1 | apply IsS60.set_2) | exact HI404.out)); (case side2 => repeat (first | (with_reducible first | exact HB.out | apply Bb1 | apply Bb2 | apply Bb3 | refine Bb4 ?_ (IsS60.ge HI404.out)) | exact HB.out)); rintro e w18 ⟨rfl, hi, hb, hk⟩; refine ⟨_, rfl, ?_⟩; have n0_ := am (hb); have n1_ := am (hi); clear HB; clear HI404; have HB := n0_; have HI404 := n1_; clear n0_ n1_; (try clear hb); (try clear hb2); (try clear hk); (try clear hi)) | ((with_reducible refine gate_callee (f := 44) rfl ?_); refine goesL_ (some 34) rfl rfl Tryd.func44 (by kernel_rfl) rfl #[.pointer (some ⟨g404, 0, none⟩), .int .i64 12] rfl zL ?_; (with_reducible refine (spec_l01Next.calls g404 t401 t414 t415 12 t416 t417 t418 w _ ?side1 ?side2 A14.out).mono ?_); (case side1 => repeat (first | (with_reducible first | exact HI404.out | apply IsS60.alloc | apply IsS60.drewN | apply IsS60.drew | apply IsS60.set_1 | apply IsS60.set_2) | exact HI404.out)); (case side2 => repeat (first | (with_reducible first | exact HB.out | apply Bb1 | apply Bb2 | apply Bb3 | refine Bb4 ?_ (IsS60.ge HI404.out)) | exact HB.out)); rintro e w19 ⟨rfl, hi, hb, hk⟩; refine ⟨_, rfl, ?_⟩; have n0_ := am (hb); have n1_ := am (hi); clear HB; clear HI404; have HB := n0_; have HI404 := n1_; clear n0_ n1_; (try clear hb); (try clear hb2); (try clear hk); (try clear hi)) | ((with_reducible refine gate_callee (f := 44) rfl ?_); refine goesL_ (some 38) rfl rfl Tryd.func44 (by kernel_rfl) rfl #[.pointer (some ⟨g404, 0, none⟩), .int .i64 4] rfl zL ?_; (with_reducible refine (spec_l01Next.calls g404 t401 t417 t418 4 t419 t420 t421 w _ ?side1 ?side2 A15.out).mono ?_); (case side1 => repeat (first | (with_reducible first | exact HI404.out | apply IsS60.alloc | apply IsS60.drewN | apply IsS60.drew | apply IsS60.set_1 | apply IsS60.set_2) | exact HI404.out)); (case side2 => repeat (first | (with_reducible first | exact HB.out | apply Bb1 | apply Bb2 | apply Bb3 | refine Bb4 ?_ (IsS60.ge HI404.out)) | exact HB.out)); rintro e w20 ⟨rfl, hi, hb, hk⟩; refine ⟨_, rfl, ?_⟩; have n0_ := am (hb); have n1_ := am (hi); clear HB; clear HI404; have HB := n0_; have HI404 := n1_; clear n0_ n1_; (try clear hb); (try clear hb2); (try clear hk); (try clear hi)) | ((with_reducible refine gate_callee (f := 44) rfl ?_); refine goesL_ (some 40) rfl rfl Tryd.func44 (by kernel_rfl) rfl #[.pointer (some ⟨g404, 0, none⟩), .int .i64 4] rfl zL ?_; (with_reducible refine (spec_l01Next.calls g404 t401 t420 t421 4 t422 t423 t424 w _ ?side1 ?side2 A16.out).mono ?_); (case side1 => repeat (first | (with_reducible first | exact HI404.out | apply IsS60.alloc | apply IsS60.drewN | apply IsS60.drew | apply IsS60.set_1 | apply IsS60.set_2) | exact HI404.out)); (case side2 => repeat (first | (with_reducible first | exact HB.out | apply Bb1 | apply Bb2 | apply Bb3 | refine Bb4 ?_ (IsS60.ge HI404.out)) | exact HB.out)); rintro e w21 ⟨rfl, hi, hb, hk⟩; refine ⟨_, rfl, ?_⟩; have n0_ := am (hb); have n1_ := am (hi); clear HB; clear HI404; have HB := n0_; have HI404 := n1_; clear n0_ n1_; (try clear hb); (try clear hb2); (try clear hk); (try clear hi)) | ((with_reducible refine gate_callee (f := 44) rfl ?_); refine goesL_ (some 42) rfl rfl Tryd.func44 (by kernel_rfl) rfl #[.pointer (some ⟨g404, 0, none⟩), .int .i64 12] rfl zL ?_; (with_reducible refine (spec_l01Next.calls g404 t401 t423 t424 12 t425 t426 t427 w _ ?side1 ?side2 A17.out).mono ?_); (case side1 => repeat (first | (with_reducible first | exact HI404.out | apply IsS60.alloc | apply IsS60.drewN | apply IsS60.drew | apply IsS60.set_1 | apply IsS60.set_2) | exact HI404.out)); (case side2 => repeat (first | (with_reducible first | exact HB.out | apply Bb1 | apply Bb2 | apply Bb3 | refine Bb4 ?_ (IsS60.ge HI404.out)) | exact HB.out)); rintro e w22 ⟨rfl, hi, hb, hk⟩; refine ⟨_, rfl, ?_⟩; have n0_ := am (hb); have n1_ := am (hi); clear HB; clear HI404; have HB := n0_; have HI404 := n1_; clear n0_ n1_; (try clear hb); (try clear hb2); (try clear hk); (try clear hi)))
  refine bodyPost_ret (results_list (rs := [.tmp 2, .tmp 3, .tmp 4, .tmp 5]) rfl (by simp) (.tmp (.tmp (.tmp (.tmp .nil))))) rfl ?_
  exact ⟨zE, by repeat (first | (with_reducible first | exact HB.out | apply Bb1 | apply Bb2 | apply Bb3 | refine Bb4 ?_ (IsS60.ge HI404.out)) | exact HB.out)⟩

end Go.Proofs.YtcgnnfaemjjljaaDoor.Q
