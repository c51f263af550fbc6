/- Written by a program of this session (wip/tools/pp.py) out of the translation, with the kit's printer. -/
import Derived.Test.YtgfpmgmelhbkoaaQ0
import Derived.Test.YtgfpmgmelhbkoaaQ2
import Derived.Test.YtgfpmgmelhbkoaaQ10
import Derived.Test.YtgfpmgmelhbkoaaQ16
import Derived.Test.YtgfpmgmelhbkoaaQ19
import Derived.Test.YtgfpmgmelhbkoaaQ20
namespace Go.Proofs.Ytgfpmgmelhbkoaa.Q
open Go.RowKit Go.Proofs.YtgfpmgmelhbkoaaW.PrintWords Go.Proofs.YtgfpmgmelhbkoaaW.PrintLast Go.Proofs.YtgfpmgmelhbkoaaW.PrintMore
attribute [local go_sem] max2_int min2_int max_two min_two max_three min_three max_four min_four
set_option linter.unusedVariables false
set_option linter.unusedSimpArgs false

/-! ### laws_FnExactBoundaryWord: function 4 -/
def laws_FnExactBoundaryWord.j0 : Nat → List (S37) → List (S35) → Bool → Option (Bool)
 | 0, _, _, _ => none
 | k + 1, x0, x6, x34 => if x34 = true then (some false) else ((laws_toCellS.f k x0).bind fun t331 => ((laws_eqCellS.f k x6 t331).bind fun t334 => (if t334 = true then (some true) else (some false))))
def laws_FnExactBoundaryWord.f (k : Nat) (l0 : List (S37)) : Option (Bool) := (laws_szCellS.f l0 1048576).bind fun t320 => (if t320 < 0 then (some true) else ((laws_toCellS.f k l0).bind fun t321 => ((spec_BoundaryWord.f k t321).bind fun bt324 => ((laws_toCellS.f k l0).bind fun t326 => ((impl_BoundaryWord.f k t326).bind fun bt329 => (if bt329.1.toList = bt324.1.toList then (laws_FnExactBoundaryWord.j0 k l0 t326 (bt329.2 != bt324.2)) else (laws_FnExactBoundaryWord.j0 k l0 t326 true)))))))
theorem laws_FnExactBoundaryWord.mono_l : ∀ k, (∀ y0 y1 y2, LeO (laws_FnExactBoundaryWord.j0 k y0 y1 y2) (laws_FnExactBoundaryWord.j0 (k + 1) y0 y1 y2))
 | 0 => fun _ _ _ r h => by simp [laws_FnExactBoundaryWord.j0] at h
 | k + 1 => by
  have ih0 := laws_FnExactBoundaryWord.mono_l k
  ·intro y0 y1 y2
   unfold laws_FnExactBoundaryWord.j0
   repeat' first
   | (with_reducible exact ih0 _ _ _)
   | (with_reducible exact impl_BoundaryWord.mono _ _)
   | (with_reducible exact laws_eqCellS.mono _ _ _)
   | (with_reducible exact laws_toCellS.mono _ _)
   | (with_reducible exact spec_BoundaryWord.mono _ _)
   | (with_reducible exact LeO.refl _)
   | (with_reducible exact LeO.none _)
   | (with_reducible refine LeO.ite ?_ ?_)
   | (with_reducible refine LeO.bind ?_ (fun _ => ?_))
   | exact ih0 _ _ _
   | exact impl_BoundaryWord.mono _ _
   | exact laws_eqCellS.mono _ _ _
   | exact laws_toCellS.mono _ _
   | exact spec_BoundaryWord.mono _ _
   | exact LeO.none _
   | refine LeO.ite ?_ ?_
   | refine LeO.bind ?_ (fun _ => ?_)
theorem laws_FnExactBoundaryWord.mono : ∀ a0 k, LeO (laws_FnExactBoundaryWord.f k a0) (laws_FnExactBoundaryWord.f (k + 1) a0) := by
 intro a0 k
 have ih0 := laws_FnExactBoundaryWord.mono_l k
 unfold laws_FnExactBoundaryWord.f
 repeat' first
   | (with_reducible exact ih0 _ _ _)
   | (with_reducible exact impl_BoundaryWord.mono _ _)
   | (with_reducible exact laws_eqCellS.mono _ _ _)
   | (with_reducible exact laws_toCellS.mono _ _)
   | (with_reducible exact spec_BoundaryWord.mono _ _)
   | (with_reducible exact LeO.refl _)
   | (with_reducible exact LeO.none _)
   | (with_reducible refine LeO.ite ?_ ?_)
   | (with_reducible refine LeO.bind ?_ (fun _ => ?_))
   | exact ih0 _ _ _
   | exact impl_BoundaryWord.mono _ _
   | exact laws_eqCellS.mono _ _ _
   | exact laws_toCellS.mono _ _
   | exact spec_BoundaryWord.mono _ _
   | exact LeO.none _
   | refine LeO.ite ?_ ?_
   | refine LeO.bind ?_ (fun _ => ?_)
set_option maxHeartbeats 8000000 in
set_option maxRecDepth 100000 in
theorem laws_FnExactBoundaryWord.calls (k : Nat) (A0 : Option Addr) (c0 : Nat) (l0 : List (S37)) (w : World) (hr0 : Kd.C k37 w A0 l0.length l0) (hc0 : l0.length ≤ c0) (h : laws_FnExactBoundaryWord.f k l0 = some true) :
  Calls Try.prog 4 #[.slice A0 l0.length c0] w fun e w' => e = .returned (.bool true) ∧ Below w.heap.size w w' := by
 have HR0 := am hr0
 have HC0 := am hc0
 clear hr0 hc0
 have HB := am (Below.refl w.heap.size w)
 have H : ((laws_szCellS.f l0 1048576).bind fun t320 => (if t320 < 0 then (some true) else ((laws_toCellS.f k l0).bind fun t321 => ((spec_BoundaryWord.f k t321).bind fun bt324 => ((laws_toCellS.f k l0).bind fun t326 => ((impl_BoundaryWord.f k t326).bind fun bt329 => (if bt329.1.toList = bt324.1.toList then (laws_FnExactBoundaryWord.j0 k l0 t326 (bt329.2 != bt324.2)) else (laws_FnExactBoundaryWord.j0 k l0 t326 true)))))))) = some true := h
 clear h
 replace H := ob H
 obtain ⟨t320, A20, H⟩ := H
 replace H : (if t320 < 0 then (some true) else ((laws_toCellS.f k l0).bind fun t321 => ((spec_BoundaryWord.f k t321).bind fun bt324 => ((laws_toCellS.f k l0).bind fun t326 => ((impl_BoundaryWord.f k t326).bind fun bt329 => (if bt329.1.toList = bt324.1.toList then (laws_FnExactBoundaryWord.j0 k l0 t326 (bt329.2 != bt324.2)) else (laws_FnExactBoundaryWord.j0 k l0 t326 true))))))) = some true := H
 have A2 := am A20
 clear A20
 by_cases c3 : t320 < 0
 ·rw [if_pos c3] at H
  have c3b0 : decide (t320 < 0) = true := decide_eq_true c3
  clear c3
  clear H
  go_enter Try.func4, Try.ntmps4
  go_wp2_with (first | ((with_reducible refine gate_callee (f := 5) rfl ?_); refine goesL_ (some 11) rfl rfl Try.func5 (by kernel_rfl) rfl #[.slice A0 l0.length c0, .int .i64 1048576] rfl (by (try simp only [List.map_toArray, List.map_cons, List.map_nil]); first | done | rfl | (simp only [List.length_drop, List.length_take]; rfl)) ?_; (with_reducible refine (laws_szCellS.calls _ _ l0 1048576 t320 _ ?side1 ?side2 A2.out).mono ?_); (case side1 => repeat (first | exact HR0.out | (with_reducible refine Kd.C_alloc ?_ _) | (with_reducible refine Kd.C_drewN ?_ _) | (with_reducible refine Kd.C_drew ?_))); (case side2 => exact HC0.out); rintro e w' ⟨rfl, ⟨nd, rfl⟩⟩; refine ⟨_, rfl, ?_⟩))
  go_ret
  exact ⟨by first | rfl | (simp [errW_none, errW_some] <;> rfl) | (simp [*, errW_none, errW_some] <;> rfl), by repeat (first | (with_reducible first | exact HB.out | apply Bb1 | apply Bb2 | apply Bb3) | exact HB.out)⟩
 ·rw [if_neg c3] at H
  have c3b0 : decide (t320 < 0) = false := decide_eq_false c3
  clear c3
  replace H := ob H
  obtain ⟨t321, A40, H⟩ := H
  replace H : ((spec_BoundaryWord.f k t321).bind fun bt324 => ((laws_toCellS.f k l0).bind fun t326 => ((impl_BoundaryWord.f k t326).bind fun bt329 => (if bt329.1.toList = bt324.1.toList then (laws_FnExactBoundaryWord.j0 k l0 t326 (bt329.2 != bt324.2)) else (laws_FnExactBoundaryWord.j0 k l0 t326 true))))) = some true := H
  have A4 := am A40
  clear A40
  replace H := ob H
  obtain ⟨⟨t324, t325⟩, A50, H⟩ := H
  replace H : ((laws_toCellS.f k l0).bind fun t326 => ((impl_BoundaryWord.f k t326).bind fun bt329 => (if bt329.1.toList = t324.toList then (laws_FnExactBoundaryWord.j0 k l0 t326 (bt329.2 != t325)) else (laws_FnExactBoundaryWord.j0 k l0 t326 true)))) = some true := H
  have A5 := am A50
  clear A50
  replace H := ob H
  obtain ⟨t326, A60, H⟩ := H
  replace H : ((impl_BoundaryWord.f k t326).bind fun bt329 => (if bt329.1.toList = t324.toList then (laws_FnExactBoundaryWord.j0 k l0 t326 (bt329.2 != t325)) else (laws_FnExactBoundaryWord.j0 k l0 t326 true))) = some true := H
  have A6 := am A60
  clear A60
  replace H := ob H
  obtain ⟨⟨t329, t330⟩, A70, H⟩ := H
  replace H : (if t329.toList = t324.toList then (laws_FnExactBoundaryWord.j0 k l0 t326 (t330 != t325)) else (laws_FnExactBoundaryWord.j0 k l0 t326 true)) = some true := H
  have A7 := am A70
  clear A70
  have HC8 := am H
  clear H
  go_enter Try.func4, Try.ntmps4
  go_upto_region 8 with (first | ((with_reducible refine gate_callee (f := 5) rfl ?_); refine goesL_ (some 11) rfl rfl Try.func5 (by kernel_rfl) rfl #[.slice A0 l0.length c0, .int .i64 1048576] rfl (by (try simp only [List.map_toArray, List.map_cons, List.map_nil]); first | done | rfl | (simp only [List.length_drop, List.length_take]; rfl)) ?_; (with_reducible refine (laws_szCellS.calls _ _ l0 1048576 t320 _ ?side1 ?side2 A2.out).mono ?_); (case side1 => repeat (first | exact HR0.out | (with_reducible refine Kd.C_alloc ?_ _) | (with_reducible refine Kd.C_drewN ?_ _) | (with_reducible refine Kd.C_drew ?_))); (case side2 => exact HC0.out); rintro e w' ⟨rfl, ⟨nd, rfl⟩⟩; refine ⟨_, rfl, ?_⟩) | ((with_reducible refine gate_callee (f := 7) rfl ?_); refine goesL_ (some 16) rfl rfl Try.func7 (by kernel_rfl) rfl #[.slice A0 l0.length c0] rfl (by (try simp only [List.map_toArray, List.map_cons, List.map_nil]); first | done | rfl | (simp only [List.length_drop, List.length_take]; rfl)) ?_; (with_reducible refine (laws_toCellS.calls k _ _ l0 t321 _ ?side1 ?side2 A4.out).mono ?_); (case side1 => repeat (first | exact HR0.out | (with_reducible refine Kd.C_alloc ?_ _) | (with_reducible refine Kd.C_drewN ?_ _) | (with_reducible refine Kd.C_drew ?_))); (case side2 => exact HC0.out); rintro e w9 ⟨v322, rfl, ho0, hb⟩; refine ⟨_, rfl, ?_⟩; have n0_ := am (Kd.R_lower ho0 (Bb5 (by repeat (first | (with_reducible first | exact HB.out | apply Bb1 | apply Bb2 | apply Bb3) | exact HB.out)))); have n1_ := am (Bb6 (by repeat (first | (with_reducible first | exact HB.out | apply Bb1 | apply Bb2 | apply Bb3) | exact HB.out)) hb); clear HB; have HO323 := n0_; have HB := n1_; clear n0_ n1_; (try clear hb); (try clear hb2); (try clear hk); (try clear hi); (try clear ho0); obtain ⟨Ao10, co10, eo10⟩ := Kd.R_slice HO323.out; subst eo10) | ((with_reducible refine gate_callee (f := 10) rfl ?_); refine goesL_ (some 17) rfl rfl Try.func10 (by kernel_rfl) rfl #[.slice Ao10 t321.length co10] rfl (by (try simp only [List.map_toArray, List.map_cons, List.map_nil]); first | done | rfl | (simp only [List.length_drop, List.length_take]; rfl)) ?_; (with_reducible refine (spec_BoundaryWord.calls k _ _ t321 t324 t325 _ ?side1 ?side2 A5.out).mono ?_); (case side1 => repeat (first | exact (Kd.R_reads' HO323.out).2.2 | (with_reducible refine Kd.C_alloc ?_ _) | (with_reducible refine Kd.C_drewN ?_ _) | (with_reducible refine Kd.C_drew ?_))); (case side2 => exact (Kd.R_reads' HO323.out).2.1); rintro e w11 ⟨rfl, hb⟩; refine ⟨_, rfl, ?_⟩; have n0_ := am (Kd.R_below (by (with_reducible repeat (first | apply Kd.R_alloc | apply Kd.R_drewN | apply Kd.R_drew)); exact HO323.out) hb); have n1_ := am (Bb6 (by repeat (first | (with_reducible first | exact HB.out | apply Bb1 | apply Bb2 | apply Bb3) | exact HB.out)) hb); clear HO323; clear HB; have HO323 := n0_; have HB := n1_; clear n0_ n1_; (try clear hb); (try clear hb2); (try clear hk); (try clear hi)) | ((with_reducible refine gate_callee (f := 7) rfl ?_); refine goesL_ (some 21) rfl rfl Try.func7 (by kernel_rfl) rfl #[.slice A0 l0.length c0] rfl (by (try simp only [List.map_toArray, List.map_cons, List.map_nil]); first | done | rfl | (simp only [List.length_drop, List.length_take]; rfl)) ?_; (with_reducible refine (laws_toCellS.calls k _ _ l0 t326 _ ?side1 ?side2 A6.out).mono ?_); (case side1 => repeat (first | exact (Kd.C_below HR0.out HB.out) | (with_reducible refine Kd.C_alloc ?_ _) | (with_reducible refine Kd.C_drewN ?_ _) | (with_reducible refine Kd.C_drew ?_))); (case side2 => exact HC0.out); rintro e w12 ⟨v327, rfl, ho0, hb⟩; refine ⟨_, rfl, ?_⟩; have n0_ := am (Kd.R_elder' (by (with_reducible repeat (first | apply Kd.R_alloc | apply Kd.R_drewN | apply Kd.R_drew)); exact HO323.out) (Kd.R_base ho0) hb); have n1_ := am (Kd.R_lower (Kd.R_new' ho0 (Kd.R_lt (by (with_reducible repeat (first | apply Kd.R_alloc | apply Kd.R_drewN | apply Kd.R_drew)); exact HO323.out))) (Bb5 (by repeat (first | (with_reducible first | exact HB.out | apply Bb1 | apply Bb2 | apply Bb3) | exact HB.out)))); have n2_ := am (Bb6 (by repeat (first | (with_reducible first | exact HB.out | apply Bb1 | apply Bb2 | apply Bb3) | exact HB.out)) hb); clear HO323; clear HB; have HO323 := n0_; have HO328 := n1_; have HB := n2_; clear n0_ n1_ n2_; (try clear hb); (try clear hb2); (try clear hk); (try clear hi); (try clear ho0); obtain ⟨Ao13, co13, eo13⟩ := Kd.R_slice HO328.out; subst eo13) | ((with_reducible refine gate_callee (f := 11) rfl ?_); refine goesL_ (some 24) rfl rfl Try.func11 (by kernel_rfl) rfl #[.slice Ao13 t326.length co13] rfl (by (try simp only [List.map_toArray, List.map_cons, List.map_nil]); first | done | rfl | (simp only [List.length_drop, List.length_take]; rfl)) ?_; (with_reducible refine (impl_BoundaryWord.calls k _ _ t326 t329 t330 _ ?side1 ?side2 A7.out).mono ?_); (case side1 => repeat (first | exact (Kd.R_reads' HO328.out).2.2 | (with_reducible refine Kd.C_alloc ?_ _) | (with_reducible refine Kd.C_drewN ?_ _) | (with_reducible refine Kd.C_drew ?_))); (case side2 => exact (Kd.R_reads' HO328.out).2.1); rintro e w14 ⟨rfl, hb⟩; refine ⟨_, rfl, ?_⟩; have n0_ := am (Kd.R_below (by (with_reducible repeat (first | apply Kd.R_alloc | apply Kd.R_drewN | apply Kd.R_drew)); exact HO323.out) hb); have n1_ := am (Kd.R_below (by (with_reducible repeat (first | apply Kd.R_alloc | apply Kd.R_drewN | apply Kd.R_drew)); exact HO328.out) hb); have n2_ := am (Bb6 (by repeat (first | (with_reducible first | exact HB.out | apply Bb1 | apply Bb2 | apply Bb3) | exact HB.out)) hb); clear HO323; clear HO328; clear HB; have HO323 := n0_; have HO328 := n1_; have HB := n2_; clear n0_ n1_ n2_; (try clear hb); (try clear hb2); (try clear hk); (try clear hi)))
  (try simp only [Act.put, sa])
  go_cut [34] (fun v34 wc => ∃ (kq : Nat) (x34_7 : Bool), v34 = .bool x34_7 ∧ Aside0 (laws_FnExactBoundaryWord.j0 kq l0 t326 x34_7 = some true) ∧ Aside0 (kq ≤ k) ∧ Aside0 (Kd.R k35 35 wc w.heap.size (fun _ => True) (.slice Ao13 t326.length co13) t326) ∧ Aside0 (Below w.heap.size w wc))
  case first =>
   have H := HC8.out
   clear HC8
   by_cases c15 : t329.toList = t324.toList
   ·rw [if_pos c15] at H
    have c15b0 : (t329.toList == t324.toList) = true := beq_iff_eq.mpr c15
    have c15b1 : (t329.toList != t324.toList) = false := bne_eq_false_iff_eq.mpr c15
    clear c15
    (first | rw [c15b0] | (simp only [i64_w, i32_w]; rw [c15b0]) | skip)
    have H' := am H
    clear H
    go_wp2
    go_meet
    case rel => exact ⟨_, ((t330 != t325)), (by first | rfl | (simp; done) | (simp [*]; done)), H', ⟨by first | omega | exact Nat.le_refl _⟩, ⟨by (with_reducible repeat (first | apply Kd.R_alloc | apply Kd.R_drewN | apply Kd.R_drew)); exact Kd.R_mono HO328.out (fun _ hk => trivial)⟩, ⟨by repeat (first | (with_reducible first | exact HB.out | apply Bb1 | apply Bb2 | apply Bb3) | exact HB.out)⟩⟩
   ·rw [if_neg c15] at H
    have c15b0 : (t329.toList == t324.toList) = false := beq_eq_false_iff_ne.mpr c15
    have c15b1 : (t329.toList != t324.toList) = true := bne_iff_ne.mpr c15
    (first | rw [c15b0] | (simp only [i64_w, i32_w]; rw [c15b0]) | skip)
    have H' := am H
    clear H
    go_wp2
    go_meet
    case rel => exact ⟨_, (true), (by first | rfl | (simp; done) | (simp [*]; done)), H', ⟨by first | omega | exact Nat.le_refl _⟩, ⟨by (with_reducible repeat (first | apply Kd.R_alloc | apply Kd.R_drewN | apply Kd.R_drew)); exact Kd.R_mono HO328.out (fun _ hk => trivial)⟩, ⟨by repeat (first | (with_reducible first | exact HB.out | apply Bb1 | apply Bb2 | apply Bb3) | exact HB.out)⟩⟩
  case rest =>
   clear HC8
   try clear c1
   try clear p2
   try clear c3
   try clear c3b0
   try clear c4
   try clear c5
   try clear c7
   try clear c10
   try clear c11
   try clear c15
   try clear c15b0
   try clear c15b1
   obtain ⟨kq, x34_7, rfl, HA, HJ7, HO_6, HB⟩ := hcut
   cases kq with
   | zero => exact absurd HA.out (by simp [laws_FnExactBoundaryWord.j0])
   | succ kj7 =>
    have H := HA.out
    clear HA
    simp only [laws_FnExactBoundaryWord.j0] at H
    by_cases c16 : x34_7 = true
    ·subst c16
     have H1 : (some false) = some true := by first | (rw [if_pos rfl] at H; exact H) | rfl
     clear H
     have H := H1
     clear H1
     exact absurd H (by simp)
    ·replace c16 := ef c16
     subst c16
     have H1 : ((laws_toCellS.f kj7 l0).bind fun t331 => ((laws_eqCellS.f kj7 t326 t331).bind fun t334 => (if t334 = true then (some true) else (some false)))) = some true := by first | (rw [if_neg (show ¬ (false = true) by decide)] at H; exact H) | rfl
     clear H
     have H := H1
     clear H1
     replace H := ob H
     obtain ⟨t331, A170, H⟩ := H
     replace H : ((laws_eqCellS.f kj7 t326 t331).bind fun t334 => (if t334 = true then (some true) else (some false))) = some true := H
     have A17 := am A170
     clear A170
     replace H := ob H
     obtain ⟨t334, A180, H⟩ := H
     replace H : (if t334 = true then (some true) else (some false)) = some true := H
     have A18 := am A180
     clear A180
     by_cases c19 : t334 = true
     ·subst c19
      have H1 : (some true) = some true := by first | (rw [if_pos rfl] at H; exact H) | rfl
      clear H
      have H := H1
      clear H1
      clear H
      go_wp2_with (first | ((with_reducible refine gate_callee (f := 7) rfl ?_); refine goesL_ (some 37) rfl rfl Try.func7 (by kernel_rfl) rfl #[.slice A0 l0.length c0] rfl (by (try simp only [List.map_toArray, List.map_cons, List.map_nil]); first | done | rfl | (simp only [List.length_drop, List.length_take]; rfl)) ?_; (with_reducible refine (laws_toCellS.calls kj7 _ _ l0 t331 _ ?side1 ?side2 A17.out).mono ?_); (case side1 => repeat (first | exact (Kd.C_below HR0.out HB.out) | (with_reducible refine Kd.C_alloc ?_ _) | (with_reducible refine Kd.C_drewN ?_ _) | (with_reducible refine Kd.C_drew ?_))); (case side2 => exact HC0.out); rintro e w20 ⟨v332, rfl, ho0, hb⟩; refine ⟨_, rfl, ?_⟩; have n0_ := am (Kd.R_elder' (by (with_reducible repeat (first | apply Kd.R_alloc | apply Kd.R_drewN | apply Kd.R_drew)); exact HO_6.out) (Kd.R_base ho0) hb); have n1_ := am (Kd.R_lower (Kd.R_new' ho0 (Kd.R_lt (by (with_reducible repeat (first | apply Kd.R_alloc | apply Kd.R_drewN | apply Kd.R_drew)); exact HO_6.out))) (Bb5 (by repeat (first | (with_reducible first | exact HB.out | apply Bb1 | apply Bb2 | apply Bb3) | exact HB.out)))); have n2_ := am (Bb6 (by repeat (first | (with_reducible first | exact HB.out | apply Bb1 | apply Bb2 | apply Bb3) | exact HB.out)) hb); clear HO_6; clear HB; have HO_6 := n0_; have HO333 := n1_; have HB := n2_; clear n0_ n1_ n2_; (try clear hb); (try clear hb2); (try clear hk); (try clear hi); (try clear ho0); obtain ⟨Ao21, co21, eo21⟩ := Kd.R_slice HO333.out; subst eo21) | ((with_reducible refine gate_callee (f := 9) rfl ?_); refine goesL_ (some 38) rfl rfl Try.func9 (by kernel_rfl) rfl #[.slice Ao13 t326.length co13, .slice Ao21 t331.length co21] rfl (by (try simp only [List.map_toArray, List.map_cons, List.map_nil]); first | done | rfl | (simp only [List.length_drop, List.length_take]; rfl)) ?_; (with_reducible refine (laws_eqCellS.calls kj7 _ _ t326 _ _ t331 true _ ?side1 ?side2 ?side3 ?side4 A18.out).mono ?_); (case side1 => repeat (first | exact (Kd.R_reads' HO_6.out).2.2 | (with_reducible refine Kd.C_alloc ?_ _) | (with_reducible refine Kd.C_drewN ?_ _) | (with_reducible refine Kd.C_drew ?_))); (case side2 => exact (Kd.R_reads' HO_6.out).2.1); (case side3 => repeat (first | exact (Kd.R_reads' HO333.out).2.2 | (with_reducible refine Kd.C_alloc ?_ _) | (with_reducible refine Kd.C_drewN ?_ _) | (with_reducible refine Kd.C_drew ?_))); (case side4 => exact (Kd.R_reads' HO333.out).2.1); rintro e w22 ⟨rfl, hb⟩; refine ⟨_, rfl, ?_⟩; have n0_ := am (Kd.R_below (by (with_reducible repeat (first | apply Kd.R_alloc | apply Kd.R_drewN | apply Kd.R_drew)); exact HO_6.out) hb); have n1_ := am (Kd.R_below (by (with_reducible repeat (first | apply Kd.R_alloc | apply Kd.R_drewN | apply Kd.R_drew)); exact HO333.out) hb); have n2_ := am (Bb6 (by repeat (first | (with_reducible first | exact HB.out | apply Bb1 | apply Bb2 | apply Bb3) | exact HB.out)) hb); clear HO_6; clear HO333; clear HB; have HO_6 := n0_; have HO333 := n1_; have HB := n2_; clear n0_ n1_ n2_; (try clear hb); (try clear hb2); (try clear hk); (try clear hi)))
      go_ret
      exact ⟨by first | rfl | (simp [errW_none, errW_some] <;> rfl) | (simp [*, errW_none, errW_some] <;> rfl), by repeat (first | (with_reducible first | exact HB.out | apply Bb1 | apply Bb2 | apply Bb3) | exact HB.out)⟩
     ·replace c19 := ef c19
      subst c19
      have H1 : (some false) = some true := by first | (rw [if_neg (show ¬ (false = true) by decide)] at H; exact H) | rfl
      clear H
      have H := H1
      clear H1
      exact absurd H (by simp)

end Go.Proofs.Ytgfpmgmelhbkoaa.Q
