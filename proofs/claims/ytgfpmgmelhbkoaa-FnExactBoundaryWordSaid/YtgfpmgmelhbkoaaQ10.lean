/- Written by a program of this session (wip/tools/pp.py) out of the translation, with the kit's printer. -/
import Derived.Test.YtgfpmgmelhbkoaaQ0
import Derived.Test.YtgfpmgmelhbkoaaQ6
import Derived.Test.YtgfpmgmelhbkoaaQ7
import Derived.Test.YtgfpmgmelhbkoaaQ8
import Derived.Test.YtgfpmgmelhbkoaaQ9
namespace Go.Proofs.Ytgfpmgmelhbkoaa.Q
open Go.RowKit Go.Proofs.YtgfpmgmelhbkoaaW.PrintWords Go.Proofs.YtgfpmgmelhbkoaaW.PrintLast Go.Proofs.YtgfpmgmelhbkoaaW.PrintMore
attribute [local go_sem] max2_int min2_int max_two min_two max_three min_three max_four min_four
set_option linter.unusedVariables false
set_option linter.unusedSimpArgs false

/-! ### spec_IsPlain: function 6 -/
def spec_IsPlain.f (k : Nat) (l0 : List (S35)) : Option (Bool) := (spec_IsConnected.f k l0).bind fun t212 => (if t212 = true then ((spec_l03Code.f k l0).bind fun t213 => (if t213 = 0 then ((spec_l23Touch.f k l0).bind fun t214 => (if t214 = true then (some false) else ((spec_l06Holes.f k l0).bind fun t215 => (some ((t215.length : Int) == 0))))) else (some false))) else (some false))
theorem spec_IsPlain.mono : ∀ a0 k, LeO (spec_IsPlain.f k a0) (spec_IsPlain.f (k + 1) a0) := by
 intro a0 k
 unfold spec_IsPlain.f
 repeat' first
   | (with_reducible exact spec_IsConnected.mono _ _)
   | (with_reducible exact spec_l03Code.mono _ _)
   | (with_reducible exact spec_l06Holes.mono _ _)
   | (with_reducible exact spec_l23Touch.mono _ _)
   | (with_reducible exact LeO.refl _)
   | (with_reducible exact LeO.none _)
   | (with_reducible refine LeO.ite ?_ ?_)
   | (with_reducible refine LeO.bind ?_ (fun _ => ?_))
   | exact spec_IsConnected.mono _ _
   | exact spec_l03Code.mono _ _
   | exact spec_l06Holes.mono _ _
   | exact spec_l23Touch.mono _ _
   | exact LeO.none _
   | refine LeO.ite ?_ ?_
   | refine LeO.bind ?_ (fun _ => ?_)
set_option maxHeartbeats 8000000 in
set_option maxRecDepth 100000 in
theorem spec_IsPlain.calls (k : Nat) (A0 : Option Addr) (c0 : Nat) (l0 : List (S35)) (r : Bool) (w : World) (hr0 : Kd.C k35 w A0 l0.length l0) (hc0 : l0.length ≤ c0) (h : spec_IsPlain.f k l0 = some r) :
  Calls Try.prog 6 #[.slice A0 l0.length c0] w fun e w' => e = .returned (.bool r) ∧ Below w.heap.size w w' := by
 have HR0 := am hr0
 have HC0 := am hc0
 clear hr0 hc0
 have HB := am (Below.refl w.heap.size w)
 have H : ((spec_IsConnected.f k l0).bind fun t212 => (if t212 = true then ((spec_l03Code.f k l0).bind fun t213 => (if t213 = 0 then ((spec_l23Touch.f k l0).bind fun t214 => (if t214 = true then (some false) else ((spec_l06Holes.f k l0).bind fun t215 => (some ((t215.length : Int) == 0))))) else (some false))) else (some false))) = some r := h
 clear h
 replace H := ob H
 obtain ⟨t212, A20, H⟩ := H
 replace H : (if t212 = true then ((spec_l03Code.f k l0).bind fun t213 => (if t213 = 0 then ((spec_l23Touch.f k l0).bind fun t214 => (if t214 = true then (some false) else ((spec_l06Holes.f k l0).bind fun t215 => (some ((t215.length : Int) == 0))))) else (some false))) else (some false)) = some r := H
 have A2 := am A20
 clear A20
 by_cases c3 : t212 = true
 ·subst c3
  have H1 : ((spec_l03Code.f k l0).bind fun t213 => (if t213 = 0 then ((spec_l23Touch.f k l0).bind fun t214 => (if t214 = true then (some false) else ((spec_l06Holes.f k l0).bind fun t215 => (some ((t215.length : Int) == 0))))) else (some false))) = some r := by first | (rw [if_pos rfl] at H; exact H) | rfl
  clear H
  have H := H1
  clear H1
  replace H := ob H
  obtain ⟨t213, A40, H⟩ := H
  replace H : (if t213 = 0 then ((spec_l23Touch.f k l0).bind fun t214 => (if t214 = true then (some false) else ((spec_l06Holes.f k l0).bind fun t215 => (some ((t215.length : Int) == 0))))) else (some false)) = some r := H
  have A4 := am A40
  clear A40
  by_cases c5 : t213 = 0
  ·rw [if_pos c5] at H
   have c5b0 : (t213 == 0) = true := beq_iff_eq.mpr c5
   have c5b1 : (t213 != 0) = false := bne_eq_false_iff_eq.mpr c5
   clear c5
   replace H := ob H
   obtain ⟨t214, A60, H⟩ := H
   replace H : (if t214 = true then (some false) else ((spec_l06Holes.f k l0).bind fun t215 => (some ((t215.length : Int) == 0)))) = some r := H
   have A6 := am A60
   clear A60
   by_cases c7 : t214 = true
   ·subst c7
    have H1 : (some false) = some r := by first | (rw [if_pos rfl] at H; exact H) | rfl
    clear H
    have H := H1
    clear H1
    obtain rfl := oi H
    go_enter Try.func6, Try.ntmps6
    go_wp2_with (first | ((with_reducible refine gate_callee (f := 12) rfl ?_); refine goesL_ (some 4) rfl rfl Try.func12 (by kernel_rfl) rfl #[.slice A0 l0.length c0] rfl (by (try simp only [List.map_toArray, List.map_cons, List.map_nil]); first | done | rfl | (simp only [List.length_drop, List.length_take]; rfl)) ?_; (with_reducible refine (spec_IsConnected.calls k _ _ l0 true _ ?side1 ?side2 A2.out).mono ?_); (case side1 => repeat (first | exact HR0.out | (with_reducible refine Kd.C_alloc ?_ _) | (with_reducible refine Kd.C_drewN ?_ _) | (with_reducible refine Kd.C_drew ?_))); (case side2 => exact HC0.out); rintro e w8 ⟨rfl, hb⟩; refine ⟨_, rfl, ?_⟩; have n0_ := am (Bb6 (by repeat (first | (with_reducible first | exact HB.out | apply Bb1 | apply Bb2 | apply Bb3) | exact HB.out)) hb); clear HB; have HB := n0_; clear n0_; (try clear hb); (try clear hb2); (try clear hk); (try clear hi)) | (go_at_call 13; (with_reducible refine (spec_l03Code.calls k _ _ l0 t213 _ ?side1 ?side2 A4.out).mono ?_); (case side1 => repeat (first | exact (Kd.C_below HR0.out HB.out) | (with_reducible refine Kd.C_alloc ?_ _) | (with_reducible refine Kd.C_drewN ?_ _) | (with_reducible refine Kd.C_drew ?_))); (case side2 => exact HC0.out); rintro e w9 ⟨rfl, hb⟩; have n0_ := am (Bb6 (by repeat (first | (with_reducible first | exact HB.out | apply Bb1 | apply Bb2 | apply Bb3) | exact HB.out)) hb); clear HB; have HB := n0_; clear n0_; (try clear hb); (try clear hb2); (try clear hk); (try clear hi)) | (go_at_call 14; (with_reducible refine (spec_l23Touch.calls k _ _ l0 true _ ?side1 ?side2 A6.out).mono ?_); (case side1 => repeat (first | exact (Kd.C_below HR0.out HB.out) | (with_reducible refine Kd.C_alloc ?_ _) | (with_reducible refine Kd.C_drewN ?_ _) | (with_reducible refine Kd.C_drew ?_))); (case side2 => exact HC0.out); rintro e w10 ⟨rfl, hb⟩; have n0_ := am (Bb6 (by repeat (first | (with_reducible first | exact HB.out | apply Bb1 | apply Bb2 | apply Bb3) | exact HB.out)) hb); clear HB; have HB := n0_; clear n0_; (try clear hb); (try clear hb2); (try clear hk); (try clear hi)))
    go_ret
    exact ⟨by first | rfl | (simp [errW_none, errW_some] <;> rfl) | (simp [*, errW_none, errW_some] <;> rfl), by repeat (first | (with_reducible first | exact HB.out | apply Bb1 | apply Bb2 | apply Bb3) | exact HB.out)⟩
   ·replace c7 := ef c7
    subst c7
    have H1 : ((spec_l06Holes.f k l0).bind fun t215 => (some ((t215.length : Int) == 0))) = some r := by first | (rw [if_neg (show ¬ (false = true) by decide)] at H; exact H) | rfl
    clear H
    have H := H1
    clear H1
    replace H := ob H
    obtain ⟨t215, A110, H⟩ := H
    replace H : (some ((t215.length : Int) == 0)) = some r := H
    have A11 := am A110
    clear A110
    obtain rfl := oi H
    go_enter Try.func6, Try.ntmps6
    go_wp2_with (first | ((with_reducible refine gate_callee (f := 12) rfl ?_); refine goesL_ (some 4) rfl rfl Try.func12 (by kernel_rfl) rfl #[.slice A0 l0.length c0] rfl (by (try simp only [List.map_toArray, List.map_cons, List.map_nil]); first | done | rfl | (simp only [List.length_drop, List.length_take]; rfl)) ?_; (with_reducible refine (spec_IsConnected.calls k _ _ l0 true _ ?side1 ?side2 A2.out).mono ?_); (case side1 => repeat (first | exact HR0.out | (with_reducible refine Kd.C_alloc ?_ _) | (with_reducible refine Kd.C_drewN ?_ _) | (with_reducible refine Kd.C_drew ?_))); (case side2 => exact HC0.out); rintro e w12 ⟨rfl, hb⟩; refine ⟨_, rfl, ?_⟩; have n0_ := am (Bb6 (by repeat (first | (with_reducible first | exact HB.out | apply Bb1 | apply Bb2 | apply Bb3) | exact HB.out)) hb); clear HB; have HB := n0_; clear n0_; (try clear hb); (try clear hb2); (try clear hk); (try clear hi)) | (go_at_call 13; (with_reducible refine (spec_l03Code.calls k _ _ l0 t213 _ ?side1 ?side2 A4.out).mono ?_); (case side1 => repeat (first | exact (Kd.C_below HR0.out HB.out) | (with_reducible refine Kd.C_alloc ?_ _) | (with_reducible refine Kd.C_drewN ?_ _) | (with_reducible refine Kd.C_drew ?_))); (case side2 => exact HC0.out); rintro e w13 ⟨rfl, hb⟩; have n0_ := am (Bb6 (by repeat (first | (with_reducible first | exact HB.out | apply Bb1 | apply Bb2 | apply Bb3) | exact HB.out)) hb); clear HB; have HB := n0_; clear n0_; (try clear hb); (try clear hb2); (try clear hk); (try clear hi)) | (go_at_call 14; (with_reducible refine (spec_l23Touch.calls k _ _ l0 false _ ?side1 ?side2 A6.out).mono ?_); (case side1 => repeat (first | exact (Kd.C_below HR0.out HB.out) | (with_reducible refine Kd.C_alloc ?_ _) | (with_reducible refine Kd.C_drewN ?_ _) | (with_reducible refine Kd.C_drew ?_))); (case side2 => exact HC0.out); rintro e w14 ⟨rfl, hb⟩; have n0_ := am (Bb6 (by repeat (first | (with_reducible first | exact HB.out | apply Bb1 | apply Bb2 | apply Bb3) | exact HB.out)) hb); clear HB; have HB := n0_; clear n0_; (try clear hb); (try clear hb2); (try clear hk); (try clear hi)) | (go_at_call 15; (with_reducible refine (spec_l06Holes.calls k _ _ l0 t215 _ ?side1 ?side2 A11.out).mono ?_); (case side1 => repeat (first | exact (Kd.C_below HR0.out HB.out) | (with_reducible refine Kd.C_alloc ?_ _) | (with_reducible refine Kd.C_drewN ?_ _) | (with_reducible refine Kd.C_drew ?_))); (case side2 => exact HC0.out); rintro e w15 ⟨v216, rfl, ho0, hb⟩; have n0_ := am (Kd.S_lower ho0 (Bb5 (by repeat (first | (with_reducible first | exact HB.out | apply Bb1 | apply Bb2 | apply Bb3) | exact HB.out)))); have n1_ := am (Bb6 (by repeat (first | (with_reducible first | exact HB.out | apply Bb1 | apply Bb2 | apply Bb3) | exact HB.out)) hb); clear HB; have HO217 := n0_; have HB := n1_; clear n0_ n1_; (try clear hb); (try clear hb2); (try clear hk); (try clear hi); (try clear ho0); obtain ⟨Ao16, co16, eo16⟩ := Kd.S_slice HO217.out; subst eo16))
    go_ret
    exact ⟨by first | rfl | (simp [errW_none, errW_some] <;> rfl) | (simp [*, errW_none, errW_some] <;> rfl), by repeat (first | (with_reducible first | exact HB.out | apply Bb1 | apply Bb2 | apply Bb3) | exact HB.out)⟩
  ·rw [if_neg c5] at H
   have c5b0 : (t213 == 0) = false := beq_eq_false_iff_ne.mpr c5
   have c5b1 : (t213 != 0) = true := bne_iff_ne.mpr c5
   obtain rfl := oi H
   go_enter Try.func6, Try.ntmps6
   go_wp2_with (first | ((with_reducible refine gate_callee (f := 12) rfl ?_); refine goesL_ (some 4) rfl rfl Try.func12 (by kernel_rfl) rfl #[.slice A0 l0.length c0] rfl (by (try simp only [List.map_toArray, List.map_cons, List.map_nil]); first | done | rfl | (simp only [List.length_drop, List.length_take]; rfl)) ?_; (with_reducible refine (spec_IsConnected.calls k _ _ l0 true _ ?side1 ?side2 A2.out).mono ?_); (case side1 => repeat (first | exact HR0.out | (with_reducible refine Kd.C_alloc ?_ _) | (with_reducible refine Kd.C_drewN ?_ _) | (with_reducible refine Kd.C_drew ?_))); (case side2 => exact HC0.out); rintro e w17 ⟨rfl, hb⟩; refine ⟨_, rfl, ?_⟩; have n0_ := am (Bb6 (by repeat (first | (with_reducible first | exact HB.out | apply Bb1 | apply Bb2 | apply Bb3) | exact HB.out)) hb); clear HB; have HB := n0_; clear n0_; (try clear hb); (try clear hb2); (try clear hk); (try clear hi)) | (go_at_call 13; (with_reducible refine (spec_l03Code.calls k _ _ l0 t213 _ ?side1 ?side2 A4.out).mono ?_); (case side1 => repeat (first | exact (Kd.C_below HR0.out HB.out) | (with_reducible refine Kd.C_alloc ?_ _) | (with_reducible refine Kd.C_drewN ?_ _) | (with_reducible refine Kd.C_drew ?_))); (case side2 => exact HC0.out); rintro e w18 ⟨rfl, hb⟩; have n0_ := am (Bb6 (by repeat (first | (with_reducible first | exact HB.out | apply Bb1 | apply Bb2 | apply Bb3) | exact HB.out)) hb); clear HB; have HB := n0_; clear n0_; (try clear hb); (try clear hb2); (try clear hk); (try clear hi)))
   go_ret
   exact ⟨by first | rfl | (simp [errW_none, errW_some] <;> rfl) | (simp [*, errW_none, errW_some] <;> rfl), by repeat (first | (with_reducible first | exact HB.out | apply Bb1 | apply Bb2 | apply Bb3) | exact HB.out)⟩
 ·replace c3 := ef c3
  subst c3
  have H1 : (some false) = some r := by first | (rw [if_neg (show ¬ (false = true) by decide)] at H; exact H) | rfl
  clear H
  have H := H1
  clear H1
  obtain rfl := oi H
  go_enter Try.func6, Try.ntmps6
  go_wp2_with (first | ((with_reducible refine gate_callee (f := 12) rfl ?_); refine goesL_ (some 4) rfl rfl Try.func12 (by kernel_rfl) rfl #[.slice A0 l0.length c0] rfl (by (try simp only [List.map_toArray, List.map_cons, List.map_nil]); first | done | rfl | (simp only [List.length_drop, List.length_take]; rfl)) ?_; (with_reducible refine (spec_IsConnected.calls k _ _ l0 false _ ?side1 ?side2 A2.out).mono ?_); (case side1 => repeat (first | exact HR0.out | (with_reducible refine Kd.C_alloc ?_ _) | (with_reducible refine Kd.C_drewN ?_ _) | (with_reducible refine Kd.C_drew ?_))); (case side2 => exact HC0.out); rintro e w19 ⟨rfl, hb⟩; refine ⟨_, rfl, ?_⟩; have n0_ := am (Bb6 (by repeat (first | (with_reducible first | exact HB.out | apply Bb1 | apply Bb2 | apply Bb3) | exact HB.out)) hb); clear HB; have HB := n0_; clear n0_; (try clear hb); (try clear hb2); (try clear hk); (try clear hi)))
  go_ret
  exact ⟨by first | rfl | (simp [errW_none, errW_some] <;> rfl) | (simp [*, errW_none, errW_some] <;> rfl), by repeat (first | (with_reducible first | exact HB.out | apply Bb1 | apply Bb2 | apply Bb3) | exact HB.out)⟩

/-! ### laws_toCell: function 16 -/
def laws_toCell.f (a0_0 : Int) (a0_1 : Int) : Option (Int × Int) := some (a0_0, a0_1)
set_option maxHeartbeats 8000000 in
set_option maxRecDepth 100000 in
theorem laws_toCell.calls (a0_0 : Int) (a0_1 : Int) (r1 : Int) (r2 : Int) (w : World) (h : laws_toCell.f a0_0 a0_1 = some (r1, r2)) :
  Calls Try.prog 16 #[.agg #[.int .i64 a0_0, .int .i64 a0_1]] w fun e w' => e = .returned (.agg #[.int .i64 r1, .int .i64 r2]) ∧ Below w.heap.size w w' := by
 have hu37 := Try.underlying37
 have hu35 := Try.underlying35
 have HB := am (Below.refl w.heap.size w)
 have H : (some (a0_0, a0_1)) = some (r1, r2) := h
 clear h
 simp only [Option.some.injEq, Prod.mk.injEq] at H
 obtain ⟨rfl, rfl⟩ := H
 go_enter Try.func16, Try.ntmps16
 go_wp2_with (first | ((with_reducible refine gate_dst (N := 1) rfl ?_); refine box_event ?hg (N := 1) ?hd (cs := #[.int .i64 a0_0, .int .i64 a0_1]) (t := 37) ?hr ?_; (case hd => rfl); (case hg => rfl); (case hr => first | (go_simp; done) | (go_simp; rfl)); intro gb218 hg w2 hbox hb; have n0_ := am (Bb6 (by repeat (first | (with_reducible first | exact HB.out | apply Bb1 | apply Bb2 | apply Bb3) | exact HB.out)) hb); have n1_ := am (hbox); have n2_ := am ((by rw [hg]; exact (Bb5 (by repeat (first | (with_reducible first | exact HB.out | apply Bb1 | apply Bb2 | apply Bb3) | exact HB.out))) : w.heap.size ≤ gb218)); have n3_ := n2_; clear HB; have HB := n0_; have BK218 := n1_; have GW218 := n2_; have GE218 := n3_; clear n0_ n1_ n2_ n3_; clear hb hbox hg) | ((with_reducible refine gate_dst (N := 2) rfl ?_); refine box_event ?hg (N := 2) ?hd (cs := #[.int .i64 0, .int .i64 0]) (t := 35) ?hr ?_; (case hd => rfl); (case hg => rfl); (case hr => first | (go_simp; done) | (go_simp; rfl)); intro gb219 hg w3 hbox hb; have n0_ := am (Bk4 (g := gb218) (o := .cells #[.int .i64 a0_0, .int .i64 a0_1] 37 (0, 0)) (by (with_reducible repeat (first | refine Bk2 ?_ _ | refine Bk3 ?_ | refine Bk1 ?_ _)); exact BK218.out) hb); have n1_ := am (Bb6 (by repeat (first | (with_reducible first | exact HB.out | apply Bb1 | apply Bb2 | apply Bb3 | refine Bb4 ?_ GE218.out) | exact HB.out)) hb); have n2_ := am (hbox); have n3_ := am ((by rw [hg]; exact (Bb5 (by repeat (first | (with_reducible first | exact HB.out | apply Bb1 | apply Bb2 | apply Bb3 | refine Bb4 ?_ GE218.out) | exact HB.out))) : w.heap.size ≤ gb219)); have n4_ := n3_; have n5_ := am ((by rw [hg]; exact nl (Bk5 (g := gb218) (o := .cells #[.int .i64 a0_0, .int .i64 a0_1] 37 (0, 0)) (by (with_reducible repeat (first | refine Bk2 ?_ _ | refine Bk3 ?_ | refine Bk1 ?_ _)); exact BK218.out)) : gb218 ≠ gb219)); have n6_ := am ((by rw [hg]; exact ng (Bk5 (g := gb218) (o := .cells #[.int .i64 a0_0, .int .i64 a0_1] 37 (0, 0)) (by (with_reducible repeat (first | refine Bk2 ?_ _ | refine Bk3 ?_ | refine Bk1 ?_ _)); exact BK218.out)) : gb219 ≠ gb218)); clear BK218; clear HB; have BK218 := n0_; have HB := n1_; have BK219 := n2_; have GW219 := n3_; have GE219 := n4_; have NB218_219 := n5_; have NB219_218 := n6_; clear n0_ n1_ n2_ n3_ n4_ n5_ n6_; clear hb hbox hg) | ((with_reducible refine gate_dst (N := 3) rfl ?_); refine box_event ?hg (N := 3) ?hd (cs := #[.int .i64 0, .int .i64 0]) (t := 35) ?hr ?_; (case hd => rfl); (case hg => rfl); (case hr => first | (go_simp; done) | (go_simp; rfl)); intro gb220 hg w4 hbox hb; have n0_ := am (Bk4 (g := gb218) (o := .cells #[.int .i64 a0_0, .int .i64 a0_1] 37 (0, 0)) (by (with_reducible repeat (first | refine Bk2 ?_ _ | refine Bk3 ?_ | refine Bk1 ?_ _)); exact BK218.out) hb); have n1_ := am (Bk4 (g := gb219) (o := .cells #[.int .i64 0, .int .i64 0] 35 (0, 0)) (by (with_reducible repeat (first | refine Bk2 ?_ _ | refine Bk3 ?_ | refine Bk1 ?_ _)); exact BK219.out) hb); have n2_ := am (Bb6 (by repeat (first | (with_reducible first | exact HB.out | apply Bb1 | apply Bb2 | apply Bb3 | refine Bb4 ?_ GE218.out | refine Bb4 ?_ GE219.out) | exact HB.out)) hb); have n3_ := am (hbox); have n4_ := am ((by rw [hg]; exact (Bb5 (by repeat (first | (with_reducible first | exact HB.out | apply Bb1 | apply Bb2 | apply Bb3 | refine Bb4 ?_ GE218.out | refine Bb4 ?_ GE219.out) | exact HB.out))) : w.heap.size ≤ gb220)); have n5_ := n4_; have n6_ := am ((by rw [hg]; exact nl (Bk5 (g := gb218) (o := .cells #[.int .i64 a0_0, .int .i64 a0_1] 37 (0, 0)) (by (with_reducible repeat (first | refine Bk2 ?_ _ | refine Bk3 ?_ | refine Bk1 ?_ _)); exact BK218.out)) : gb218 ≠ gb220)); have n7_ := am ((by rw [hg]; exact ng (Bk5 (g := gb218) (o := .cells #[.int .i64 a0_0, .int .i64 a0_1] 37 (0, 0)) (by (with_reducible repeat (first | refine Bk2 ?_ _ | refine Bk3 ?_ | refine Bk1 ?_ _)); exact BK218.out)) : gb220 ≠ gb218)); have n8_ := am ((by rw [hg]; exact nl (Bk5 (g := gb219) (o := .cells #[.int .i64 0, .int .i64 0] 35 (0, 0)) (by (with_reducible repeat (first | refine Bk2 ?_ _ | refine Bk3 ?_ | refine Bk1 ?_ _)); exact BK219.out)) : gb219 ≠ gb220)); have n9_ := am ((by rw [hg]; exact ng (Bk5 (g := gb219) (o := .cells #[.int .i64 0, .int .i64 0] 35 (0, 0)) (by (with_reducible repeat (first | refine Bk2 ?_ _ | refine Bk3 ?_ | refine Bk1 ?_ _)); exact BK219.out)) : gb220 ≠ gb219)); clear BK218; clear BK219; clear HB; have BK218 := n0_; have BK219 := n1_; have HB := n2_; have BK220 := n3_; have GW220 := n4_; have GE220 := n5_; have NB218_220 := n6_; have NB220_218 := n7_; have NB219_220 := n8_; have NB220_219 := n9_; clear n0_ n1_ n2_ n3_ n4_ n5_ n6_ n7_ n8_ n9_; clear hb hbox hg; have hnb5 := NB218_219.out; have hnc5 := NB219_218.out; have hnb6 := NB218_220.out; have hnc6 := NB220_218.out; have hcz7_0 : w4.cell? ⟨gb218, 0, none⟩ = some (.int .i64 a0_0) := (kc BK218.out 0).trans rfl; have hcz7_1 : w4.cell? ⟨gb218, 1, none⟩ = some (.int .i64 a0_1) := (kc BK218.out 1).trans rfl; have hfz7_0 := kf BK218.out 0; have hfz7_1 := kf BK218.out 1; have hnb8 := NB220_219.out; have hnc8 := NB219_220.out; have hcz9_0 : w4.cell? ⟨gb220, 0, none⟩ = some (.int .i64 0) := (kc BK220.out 0).trans rfl; have hcz9_1 : w4.cell? ⟨gb220, 1, none⟩ = some (.int .i64 0) := (kc BK220.out 1).trans rfl; have hfz9_0 := kf BK220.out 0; have hfz9_1 := kf BK220.out 1; have hcz10_0 : w4.cell? ⟨gb219, 0, none⟩ = some (.int .i64 0) := (kc BK219.out 0).trans rfl; have hcz10_1 : w4.cell? ⟨gb219, 1, none⟩ = some (.int .i64 0) := (kc BK219.out 1).trans rfl; have hfz10_0 := kf BK219.out 0; have hfz10_1 := kf BK219.out 1))
 refine bodyPost_ret (results_cell_row rfl _ _ gb219 35 #[.int .i64 a0_0, .int .i64 a0_1] (0, 0) _ rfl (by (with_reducible repeat (first | refine Bk2 ?_ _ | refine Bk3 ?_ | refine Bk1 ?_ _)); refine blk_put (cs := #[.int .i64 a0_0, .int .i64 0]) ?_ 1 _ rfl; (with_reducible repeat (first | refine Bk2 ?_ _ | refine Bk3 ?_ | refine Bk1 ?_ _)); refine blk_put (cs := #[.int .i64 0, .int .i64 0]) ?_ 0 _ rfl; (with_reducible repeat (first | refine Bk2 ?_ _ | refine Bk3 ?_ | refine Bk1 ?_ _)); refine blk_far ?_ NB219_220.out _; (with_reducible repeat (first | refine Bk2 ?_ _ | refine Bk3 ?_ | refine Bk1 ?_ _)); refine blk_far ?_ NB219_220.out _; (with_reducible repeat (first | refine Bk2 ?_ _ | refine Bk3 ?_ | refine Bk1 ?_ _)); exact BK219.out) Try.underlying35 rfl (by kernel_rfl)) rfl ?_
 exact ⟨by first | rfl | (simp [errW_none, errW_some] <;> rfl) | (simp [*, errW_none, errW_some] <;> rfl), by repeat (first | (with_reducible first | exact HB.out | apply Bb1 | apply Bb2 | apply Bb3 | refine Bb4 ?_ GE218.out | refine Bb4 ?_ GE219.out | refine Bb4 ?_ GE220.out) | exact HB.out)⟩

/-! ### laws_toCellS: function 7 -/
def laws_toCellS.l0 : Nat → List (S37) → List (S35) → Int → Option ((List (S35)))
 | 0, _, _, _ => none
 | k + 1, x0, x3, x4 => if x4 < (x0.length : Int) then (if 0 ≤ x4 then ((laws_toCell.f ((rd_T37 x0 x4).f0) ((rd_T37 x0 x4).f1)).bind fun bt225 => (if x4 < (x3.length : Int) then (laws_toCellS.l0 k x0 (x3.set (x4 : Int).toNat (⟨bt225.1, bt225.2⟩ : S35)) (wrap64 (x4 + 1))) else (none))) else (none)) else (some x3)
def laws_toCellS.f (k : Nat) (l0 : List (S37)) : Option ((List (S35))) := if 0 ≤ (l0.length : Int) then (if ((l0.length : Int) : Int).toNat ≤ 17592186044416 then (laws_toCellS.l0 k l0 (List.replicate ((l0.length : Int) : Int).toNat z35) 0) else (none)) else (none)
theorem laws_toCellS.mono_l : ∀ k, (∀ y0 y1 y2, LeO (laws_toCellS.l0 k y0 y1 y2) (laws_toCellS.l0 (k + 1) y0 y1 y2))
 | 0 => fun _ _ _ r h => by simp [laws_toCellS.l0] at h
 | k + 1 => by
  have ih0 := laws_toCellS.mono_l k
  ·intro y0 y1 y2
   unfold laws_toCellS.l0
   repeat' first
   | (with_reducible exact ih0 _ _ _)
   | (with_reducible exact LeO.refl _)
   | (with_reducible exact LeO.none _)
   | (with_reducible refine LeO.ite ?_ ?_)
   | (with_reducible refine LeO.bind ?_ (fun _ => ?_))
   | exact ih0 _ _ _
   | exact LeO.none _
   | refine LeO.ite ?_ ?_
   | refine LeO.bind ?_ (fun _ => ?_)
theorem laws_toCellS.mono : ∀ a0 k, LeO (laws_toCellS.f k a0) (laws_toCellS.f (k + 1) a0) := by
 intro a0 k
 have ih0 := laws_toCellS.mono_l k
 unfold laws_toCellS.f
 repeat' first
   | (with_reducible exact ih0 _ _ _)
   | (with_reducible exact LeO.refl _)
   | (with_reducible exact LeO.none _)
   | (with_reducible refine LeO.ite ?_ ?_)
   | (with_reducible refine LeO.bind ?_ (fun _ => ?_))
   | exact ih0 _ _ _
   | exact LeO.none _
   | refine LeO.ite ?_ ?_
   | refine LeO.bind ?_ (fun _ => ?_)
set_option maxHeartbeats 8000000 in
set_option maxRecDepth 100000 in
theorem laws_toCellS.calls (k : Nat) (A0 : Option Addr) (c0 : Nat) (l0 : List (S37)) (r : List (S35)) (w : World) (hr0 : Kd.C k37 w A0 l0.length l0) (hc0 : l0.length ≤ c0) (h : laws_toCellS.f k l0 = some r) :
  Calls Try.prog 7 #[.slice A0 l0.length c0] w fun e w' => ∃ v0_ : Value, e = .returned (v0_) ∧ Kd.R k35 35 w' w.heap.size (fun _ => True) v0_ r ∧ Below w.heap.size w w' := by
 have hu37 := Try.underlying37
 have hu35 := Try.underlying35
 have HR0 := am hr0
 have HC0 := am hc0
 clear hr0 hc0
 have HB := am (Below.refl w.heap.size w)
 have H : (if 0 ≤ (l0.length : Int) then (if ((l0.length : Int) : Int).toNat ≤ 17592186044416 then (laws_toCellS.l0 k l0 (List.replicate ((l0.length : Int) : Int).toNat z35) 0) else (none)) else (none)) = some r := h
 clear h
 by_cases c2 : 0 ≤ (l0.length : Int)
 ·rw [if_pos c2] at H
  have c2b0 := eq_true c2
  have c2b1 : decide (0 ≤ (l0.length : Int)) = true := decide_eq_true c2
  clear c2
  by_cases c3 : ((l0.length : Int) : Int).toNat ≤ 17592186044416
  ·rw [if_pos c3] at H
   have c3b0 := eq_true c3
   have c3b1 : decide (((l0.length : Int) : Int).toNat ≤ 17592186044416) = true := decide_eq_true c3
   clear c3
   obtain ⟨y221, hy221⟩ : ∃ y_ : List (S35), y_ = (List.replicate ((l0.length : Int) : Int).toNat z35) := ⟨_, rfl⟩
   replace H : (laws_toCellS.l0 k l0 y221 0) = some r := by first | (rw [hy221]; with_reducible exact H) | (have H2_ := (Option.bind_some _ _).symm.trans H; rw [hy221]; with_reducible exact H2_) | (have H2_ := (Option.bind_some _ _).symm.trans H; with_reducible exact H2_) | with_reducible exact H | (rw [hy221]; exact H) | exact H
   have Ny221 := am hy221
   clear hy221
   have H' := am H
   clear H
   go_enter Try.func7, Try.ntmps7
   go_wp2_with (first | ((with_reducible refine gate_dst (N := 7) rfl ?_); refine Kd.R_make k35 _ 35 rfl (N := 7) rfl 25 _ _ rfl (l0.length : Int) rfl rfl Try.underlying25 (.agg #[(.int .i64 0), (.int .i64 0)]) 16 info35 rfl (by decide) (by omega) z35 (ok := fun _ => True) (okp := fun _ => True) (k35_mkM _ _ _ z35 ) (fun _ hk => hk) trivial (of_decide_eq_true (by first | (with_reducible assumption) | assumption)) (Nat.le_trans (Nat.mul_le_mul_right _ (of_decide_eq_true (by first | (with_reducible assumption) | assumption) : (l0.length : Int).toNat ≤ 17592186044416)) (by omega)) (Below.refl _ _) (Nat.le_refl _) ?_; intro v222 w4 ho5 hb hg_ hnew_; clear hg_ hnew_; (first | rw [← Ny221.out] at ho5 | (simp only [Int.reduceToNat] at ho5; rw [← Ny221.out] at ho5)); have n0_ := am (Kd.R_lower ho5 (Bb5 (by repeat (first | (with_reducible first | exact HB.out | apply Bb1 | apply Bb2 | apply Bb3) | exact HB.out)))); have n1_ := am (Bb6 (by repeat (first | (with_reducible first | exact HB.out | apply Bb1 | apply Bb2 | apply Bb3) | exact HB.out)) hb); clear HB; have HO223 := n0_; have HB := n1_; clear n0_ n1_; clear hb ho5))
   go_loopg [4] k (fun kq v4 w' => ∃ (x3_1 : List (S35)) (x4_1 : Int), v4 = .int .i64 x4_1 ∧ Aside0 (laws_toCellS.l0 kq l0 x3_1 x4_1 = some r) ∧ Aside0 (kq ≤ k) ∧ Aside0 (Kd.R k35 35 w' w.heap.size (fun _ => True) v222 x3_1) ∧ Aside0 (Below w.heap.size w w'))
   case atStart => exact ⟨(y221), (0), (by first | rfl | (simp; done) | (simp [*]; done)), H', ⟨Nat.le_refl _⟩, ⟨by (with_reducible repeat (first | apply Kd.R_alloc | apply Kd.R_drewN | apply Kd.R_drew)); exact HO223.out⟩, ⟨by repeat (first | (with_reducible first | exact HB.out | apply Bb1 | apply Bb2 | apply Bb3) | exact HB.out)⟩⟩
   case round =>
    clear H'
    try clear c2
    try clear c2b0
    try clear c2b1
    try clear p2
    try clear c3
    try clear c3b0
    try clear c3b1
    obtain ⟨x3_1, x4_1, rfl, HA, HK1, HO_3, HB⟩ := hrel
    cases gk with
    | zero => exact absurd HA.out (by simp [laws_toCellS.l0])
    | succ k1 =>
     have H := HA.out
     clear HA
     simp only [laws_toCellS.l0] at H
     by_cases c6 : x4_1 < (l0.length : Int)
     ·rw [if_pos c6] at H
      have c6b0 : decide (x4_1 < (l0.length : Int)) = true := decide_eq_true c6
      clear c6
      by_cases c7 : 0 ≤ x4_1
      ·rw [if_pos c7] at H
       have c7b0 : decide (0 ≤ x4_1) = true := decide_eq_true c7
       clear c7
       replace H := ob H
       obtain ⟨⟨t225, t226⟩, A80, H⟩ := H
       replace H : (if x4_1 < (x3_1.length : Int) then (laws_toCellS.l0 k1 l0 (x3_1.set (x4_1 : Int).toNat (⟨t225, t226⟩ : S35)) (wrap64 (x4_1 + 1))) else (none)) = some r := H
       have A8 := am A80
       clear A80
       by_cases c9 : x4_1 < (x3_1.length : Int)
       ·rw [if_pos c9] at H
        have c9b0 : decide (x4_1 < (x3_1.length : Int)) = true := decide_eq_true c9
        clear c9
        obtain ⟨y227, hy227⟩ : ∃ y_ : List (S35), y_ = (x3_1.set (x4_1 : Int).toNat (⟨t225, t226⟩ : S35)) := ⟨_, rfl⟩
        replace H : (laws_toCellS.l0 k1 l0 y227 (wrap64 (x4_1 + 1))) = some r := by first | (rw [hy227]; with_reducible exact H) | (have H2_ := (Option.bind_some _ _).symm.trans H; rw [hy227]; with_reducible exact H2_) | (have H2_ := (Option.bind_some _ _).symm.trans H; with_reducible exact H2_) | with_reducible exact H | (rw [hy227]; exact H) | exact H
        have Ny227 := am hy227
        clear hy227
        have H' := am H
        clear H
        have p224 : 0 ≤ (x4_1 : Int) := of_decide_eq_true (by first | (with_reducible assumption) | assumption)
        have q224 : x4_1 < (l0.length : Int) := of_decide_eq_true (by first | (with_reducible assumption) | assumption)
        obtain ⟨ad224, e224, hx224_0, hx224_1⟩ := at_T37 HR0.out x4_1 p224 q224
        cases e224
        replace hx224_0 := pc HB.out hx224_0
        replace hx224_1 := pc HB.out hx224_1
        replace p224 := eq_true p224
        replace q224 := eq_true q224
        go_wp2_with (first | ((with_reducible refine gate_callee (f := 16) rfl ?_); refine goesL_ (some 20) rfl rfl Try.func16 (by kernel_rfl) rfl #[.agg #[.int .i64 ((rd_T37 l0 x4_1).f0), .int .i64 ((rd_T37 l0 x4_1).f1)]] rfl (by (try simp only [List.map_toArray, List.map_cons, List.map_nil]); first | done | rfl | (simp only [List.length_drop, List.length_take]; rfl)) ?_; (with_reducible refine (laws_toCell.calls ((rd_T37 l0 x4_1).f0) ((rd_T37 l0 x4_1).f1) t225 t226 _ A8.out).mono ?_); rintro e w11 ⟨rfl, hb⟩; refine ⟨_, rfl, ?_⟩; have n0_ := am (Kd.R_below (by (with_reducible repeat (first | apply Kd.R_alloc | apply Kd.R_drewN | apply Kd.R_drew)); exact HO_3.out) hb); have n1_ := am (Bb6 (by repeat (first | (with_reducible first | exact HB.out | apply Bb1 | apply Bb2 | apply Bb3) | exact HB.out)) hb); clear HO_3; clear HB; have HO_3 := n0_; have HB := n1_; clear n0_ n1_; (try clear hb); (try clear hb2); (try clear hk); (try clear hi); have p10 : 0 ≤ (x4_1 : Int) := of_decide_eq_true (by first | (with_reducible assumption) | assumption); have q10 : (x4_1 : Int) < ((x3_1.length : Int) : Int) := of_decide_eq_true (by first | (with_reducible assumption) | assumption); obtain ⟨go10, co10, eo10, gb10, gl10, cl10, HG10⟩ := Kd.R_form HO_3.out (by omega); (first | cases eo10 | (injection eo10 with ea_ en_ ec_; (first | subst ea_ | (injection ea_ with ea_; subst ea_)); subst ec_; clear en_)); have GB10 := am gb10; have GG10 := am HG10; clear gb10 gl10 HG10; obtain ⟨ce10, hcl10, hM10, hcc10, hfr10⟩ := Kd.R_elem HO_3.out z35 (x4_1 : Int) p10 q10; obtain rfl := k35_openM hM10; have hx10_0 : w11.cell? ⟨go10, (x4_1 : Int).toNat * 2, none⟩ = some (.int .i64 ((rd_T35 x3_1 x4_1).f0)) := hcc10 0 _ rfl; have hx10_1 : w11.cell? ⟨go10, (x4_1 : Int).toNat * 2 + 1, none⟩ = some (.int .i64 ((rd_T35 x3_1 x4_1).f1)) := hcc10 1 _ rfl; have hf10_0 : w11.frozen? ⟨go10, (x4_1 : Int).toNat * 2, none⟩ = false := hfr10 0; have hf10_1 : w11.frozen? ⟨go10, (x4_1 : Int).toNat * 2 + 1, none⟩ = false := hfr10 1; clear hcl10 hcc10 hfr10; (try clear hM10); replace p10 := eq_true p10; replace q10 := eq_true q10; have HX12 := am (show Kd.R k35 35 w11 w.heap.size (fun _ => True) (.slice (some ⟨go10, 0, none⟩) x3_1.length co10) x3_1 from (by (with_reducible repeat (first | apply Kd.R_alloc | apply Kd.R_drewN | apply Kd.R_drew)); exact HO_3.out)); obtain ⟨ce12, hcl12, hM12, hcc12, hfr12⟩ := Kd.R_elem HX12.out z35 (x4_1 : Int) (of_decide_eq_true (by first | (with_reducible assumption) | assumption)) (by have h_ : (x4_1 : Int) < ((x3_1.length : Int) : Int) := of_decide_eq_true (by first | (with_reducible assumption) | assumption); first | exact h_ | (have e_ := (Kd.R_reads' HO_3.out).1; omega) | simpa using h_); obtain rfl := k35_openM hM12; have HP12 := Kd.R_seg HX12.out (x4_1 : Int) (of_decide_eq_true (by first | (with_reducible assumption) | assumption)) (by have h_ : (x4_1 : Int) < ((x3_1.length : Int) : Int) := of_decide_eq_true (by first | (with_reducible assumption) | assumption); first | exact h_ | (have e_ := (Kd.R_reads' HO_3.out).1; omega) | simpa using h_) (seg := [.int .i64 t225, .int .i64 t226]) (j := 0) hcl12 hcc12 (show 2 ≤ 2 from by decide) (x' := (⟨t225, t226⟩ : S35)) (k35_mkM _ _ _ (⟨t225, t226⟩ : S35) ) (fun _ hk => hk); have hx12_0 := hcc12 0 _ rfl; (try simp only [show (k35).sz = 2 from rfl, Nat.mul_one, Nat.add_zero] at hx12_0); have hf12_0 := hfr12 0; (try simp only [show (k35).sz = 2 from rfl, Nat.mul_one, Nat.add_zero] at hf12_0); have hx12_1 := hcc12 1 _ rfl; (try simp only [show (k35).sz = 2 from rfl, Nat.mul_one, Nat.add_zero] at hx12_1); have hf12_1 := hfr12 1; (try simp only [show (k35).sz = 2 from rfl, Nat.mul_one, Nat.add_zero] at hf12_1); clear hcl12 hcc12 hfr12; (try clear hM12)) | ((with_reducible refine gate_store (t := 35) (p := 21) rfl ?_); refine store_event (t := 35) (p := 21) (v := ?vo_w13) (w1 := ((w11.setCell ⟨go10, (x4_1 : Int).toNat * 2, none⟩ (.int .i64 t225)).setCell ⟨go10, (x4_1 : Int).toNat * 2 + 1, none⟩ (.int .i64 t226))) ?hg ?ho ?hn ?hr ?_; (case ho => rfl); (case hg => rfl); (case hn => rfl); (case hr => first | (go_simp; done) | (go_simp; rfl)); intro w13 hw; have hg : w11.grownBy w13 (some go10) := (by rw [hw]; exact HP12.2); have hp_ : Kd.R k35 35 w13 w.heap.size (fun _ => True) (.slice (some ⟨go10, 0, none⟩) x3_1.length co10) y227 := (by rw [hw, Ny227.out]; exact HP12.1); clear HP12; have n0_ := am (hp_); have n1_ := am ((by rw [hw]; exact Bb4 (Bb4 (HB.out) GB10.out) GB10.out : Below w.heap.size w w13)); clear HO_3; clear HB; have HO_3 := n0_; have HB := n1_; clear n0_ n1_; clear hg hw hp_))
        go_roundg k1
        case measure => have := HK1.out; omega
        case rel => exact ⟨(y227), (wrap64 (x4_1 + 1)), (by first | rfl | (simp; done) | (simp [*]; done)), H', ⟨by have := HK1.out; omega⟩, ⟨by (with_reducible repeat (first | apply Kd.R_alloc | apply Kd.R_drewN | apply Kd.R_drew)); exact HO_3.out⟩, ⟨by repeat (first | (with_reducible first | exact HB.out | apply Bb1 | apply Bb2 | apply Bb3) | exact HB.out)⟩⟩
       ·rw [if_neg c9] at H
        exact absurd H (by simp)
      ·rw [if_neg c7] at H
       exact absurd H (by simp)
     ·rw [if_neg c6] at H
      have c6b0 : decide (x4_1 < (l0.length : Int)) = false := decide_eq_false c6
      clear c6
      obtain rfl := oi H
      go_wp2
      go_ret
      exact ⟨_, by first | rfl | (simp [errW_none, errW_some] <;> rfl) | (simp [*, errW_none, errW_some] <;> rfl), by (with_reducible repeat (first | apply Kd.R_alloc | apply Kd.R_drewN | apply Kd.R_drew)); exact HO_3.out, by repeat (first | (with_reducible first | exact HB.out | apply Bb1 | apply Bb2 | apply Bb3) | exact HB.out)⟩
  ·rw [if_neg c3] at H
   exact absurd H (by simp)
 ·rw [if_neg c2] at H
  exact absurd H (by simp)

/-! ### impl_around: function 35 -/
def impl_around.f (a0_0 : Int) (a0_1 : Int) : Option ((List (S35))) := some (([(⟨a0_0, wrap64 (a0_1 - 1)⟩ : S35), (⟨wrap64 (a0_0 - 1), a0_1⟩ : S35), (⟨wrap64 (a0_0 + 1), a0_1⟩ : S35), (⟨a0_0, wrap64 (a0_1 + 1)⟩ : S35)] : List (S35)))
set_option maxHeartbeats 8000000 in
set_option maxRecDepth 100000 in
theorem impl_around.calls (a0_0 : Int) (a0_1 : Int) (r : List (S35)) (w : World) (h : impl_around.f a0_0 a0_1 = some r) :
  Calls Try.prog 35 #[.agg #[.int .i64 a0_0, .int .i64 a0_1]] w fun e w' => ∃ v0_ : Value, e = .returned (v0_) ∧ Kd.R k35 35 w' w.heap.size (fun _ => True) v0_ r ∧ Below w.heap.size w w' := by
 have hu35 := Try.underlying35
 have HB := am (Below.refl w.heap.size w)
 have H : (some (([(⟨a0_0, wrap64 (a0_1 - 1)⟩ : S35), (⟨wrap64 (a0_0 - 1), a0_1⟩ : S35), (⟨wrap64 (a0_0 + 1), a0_1⟩ : S35), (⟨a0_0, wrap64 (a0_1 + 1)⟩ : S35)] : List (S35)))) = some r := h
 clear h
 obtain ⟨y229, hy229⟩ : ∃ y_ : List (S35), y_ = (([(⟨a0_0, wrap64 (a0_1 - 1)⟩ : S35), (⟨wrap64 (a0_0 - 1), a0_1⟩ : S35), (⟨wrap64 (a0_0 + 1), a0_1⟩ : S35), (⟨a0_0, wrap64 (a0_1 + 1)⟩ : S35)] : List (S35))) := ⟨_, rfl⟩
 replace H : (some y229) = some r := by first | (rw [hy229]; with_reducible exact H) | (have H2_ := (Option.bind_some _ _).symm.trans H; rw [hy229]; with_reducible exact H2_) | (have H2_ := (Option.bind_some _ _).symm.trans H; with_reducible exact H2_) | with_reducible exact H | (rw [hy229]; exact H) | exact H
 have Ny229 := am hy229
 clear hy229
 obtain rfl := oi H
 go_enter Try.func35, Try.ntmps35
 go_wp2_with (first | ((with_reducible refine gate_dst (N := 1) rfl ?_); refine box_event ?hg (N := 1) ?hd (cs := #[.int .i64 a0_0, .int .i64 a0_1]) (t := 35) ?hr ?_; (case hd => rfl); (case hg => rfl); (case hr => first | (go_simp; done) | (go_simp; rfl)); intro gb228 hg w2 hbox hb; have n0_ := am (Bb6 (by repeat (first | (with_reducible first | exact HB.out | apply Bb1 | apply Bb2 | apply Bb3) | exact HB.out)) hb); have n1_ := am (hbox); have n2_ := am ((by rw [hg]; exact (Bb5 (by repeat (first | (with_reducible first | exact HB.out | apply Bb1 | apply Bb2 | apply Bb3) | exact HB.out))) : w.heap.size ≤ gb228)); have n3_ := n2_; clear HB; have HB := n0_; have BK228 := n1_; have GW228 := n2_; have GE228 := n3_; clear n0_ n1_ n2_ n3_; clear hb hbox hg; have hcz3_0 : w2.cell? ⟨gb228, 0, none⟩ = some (.int .i64 a0_0) := (kc BK228.out 0).trans rfl; have hcz3_1 : w2.cell? ⟨gb228, 1, none⟩ = some (.int .i64 a0_1) := (kc BK228.out 1).trans rfl; have hfz3_0 := kf BK228.out 0; have hfz3_1 := kf BK228.out 1) | ((with_reducible refine gate_dst (N := 27) rfl ?_); refine Kd.R_lit k35 _ 35 ?hg (N := 27) ?hd (xs := ([(⟨a0_0, wrap64 (a0_1 - 1)⟩ : S35), (⟨wrap64 (a0_0 - 1), a0_1⟩ : S35), (⟨wrap64 (a0_0 + 1), a0_1⟩ : S35), (⟨a0_0, wrap64 (a0_1 + 1)⟩ : S35)] : List (S35))) (inner := [.int .i64 a0_0, .int .i64 (wrap64 (a0_1 - 1)), .int .i64 (wrap64 (a0_0 - 1)), .int .i64 a0_1, .int .i64 (wrap64 (a0_0 + 1)), .int .i64 a0_1, .int .i64 a0_0, .int .i64 (wrap64 (a0_1 + 1))]) (ok := fun _ => True) (okp := fun _ => True) ?hr ?hp (fun _ hk => hk) trivial (Below.refl _ _) (Nat.le_refl _) (by simp) ?_; (case hd => rfl); (case hg => rfl); (case hr => first | (go_simp; done) | (go_simp; rfl)); (case hp => exact (Reps.c2 (show Kd.M k35 _ _ _ (⟨a0_0, wrap64 (a0_1 - 1)⟩ : S35) [.int .i64 a0_0, .int .i64 (wrap64 (a0_1 - 1))] from (k35_mkM _ _ _ (⟨a0_0, wrap64 (a0_1 - 1)⟩ : S35) )) (Reps.c2 (show Kd.M k35 _ _ _ (⟨wrap64 (a0_0 - 1), a0_1⟩ : S35) [.int .i64 (wrap64 (a0_0 - 1)), .int .i64 a0_1] from (k35_mkM _ _ _ (⟨wrap64 (a0_0 - 1), a0_1⟩ : S35) )) (Reps.c2 (show Kd.M k35 _ _ _ (⟨wrap64 (a0_0 + 1), a0_1⟩ : S35) [.int .i64 (wrap64 (a0_0 + 1)), .int .i64 a0_1] from (k35_mkM _ _ _ (⟨wrap64 (a0_0 + 1), a0_1⟩ : S35) )) (Reps.c2 (show Kd.M k35 _ _ _ (⟨a0_0, wrap64 (a0_1 + 1)⟩ : S35) [.int .i64 a0_0, .int .i64 (wrap64 (a0_1 + 1))] from (k35_mkM _ _ _ (⟨a0_0, wrap64 (a0_1 + 1)⟩ : S35) )) (Reps.none _ _)))))); intro v230 w4 ho5 hb hg_ hnew_; clear hg_ hnew_; (first | rw [← Ny229.out] at ho5 | (simp only [Int.reduceToNat] at ho5; rw [← Ny229.out] at ho5)); have n0_ := am (Kd.R_lower (Kd.R_newB ho5 (g := gb228) (o := .cells #[.int .i64 a0_0, .int .i64 a0_1] 35 (0, 0)) (by (with_reducible repeat (first | refine Bk2 ?_ _ | refine Bk3 ?_ | refine Bk1 ?_ _)); exact BK228.out)) (Bb5 (by repeat (first | (with_reducible first | exact HB.out | apply Bb1 | apply Bb2 | apply Bb3 | refine Bb4 ?_ GE228.out) | exact HB.out)))); have n1_ := am (Bk4 (g := gb228) (o := .cells #[.int .i64 a0_0, .int .i64 a0_1] 35 (0, 0)) (by (with_reducible repeat (first | refine Bk2 ?_ _ | refine Bk3 ?_ | refine Bk1 ?_ _)); exact BK228.out) hb); have n2_ := am (Bb6 (by repeat (first | (with_reducible first | exact HB.out | apply Bb1 | apply Bb2 | apply Bb3 | refine Bb4 ?_ GE228.out) | exact HB.out)) hb); clear BK228; clear HB; have HO231 := n0_; have BK228 := n1_; have HB := n2_; clear n0_ n1_ n2_; clear hb ho5))
 go_ret
 exact ⟨_, by first | rfl | (simp [errW_none, errW_some] <;> rfl) | (simp [*, errW_none, errW_some] <;> rfl), by (with_reducible repeat (first | apply Kd.R_alloc | apply Kd.R_drewN | apply Kd.R_drew)); exact Kd.R_mono HO231.out (fun _ hk => trivial), by repeat (first | (with_reducible first | exact HB.out | apply Bb1 | apply Bb2 | apply Bb3 | refine Bb4 ?_ GE228.out) | exact HB.out)⟩

end Go.Proofs.Ytgfpmgmelhbkoaa.Q
