/- Written by a program of this session (wip/tools/pp.py) out of the translation, with the kit's printer. -/
import Derived.Test.YtcgnnfaemjjljaaDoorQ0
import Derived.Test.YtcgnnfaemjjljaaDoorQ20
import Derived.Test.YtcgnnfaemjjljaaDoorQ21
import Derived.Test.YtcgnnfaemjjljaaDoorQ26
import Derived.Test.YtcgnnfaemjjljaaDoorQ28
namespace Go.Proofs.YtcgnnfaemjjljaaDoor.Q
open Go.RowKit Go.Proofs.YtcgnnfaemjjljaaDoorW.PrintWords Go.Proofs.YtcgnnfaemjjljaaDoorW.PrintLast Go.Proofs.YtcgnnfaemjjljaaDoorW.PrintMore
attribute [local go_sem] max2_int min2_int max_two min_two max_three min_three max_four min_four
set_option linter.unusedVariables false
set_option linter.unusedSimpArgs false

/-! ### spec_l06Holes: function 69 -/
mutual
def spec_l06Holes.l0 : Nat → List (S42) → Int → Int → Int → Int → List (S42) → Int → Option ((List (List (S42))))
 | 0, _, _, _, _, _, _, _ => none
 | k + 1, x0, x3, x4, x5, x6, x7, x8 => if x8 ≤ (wrap64 (x4 + x6)) then (spec_l06Holes.l1 k x0 x3 x4 x5 x6 x7 x8 (wrap64 (x3 - 1))) else ((spec_l02Parts.f k x7).bind fun t321 => (spec_l06Holes.l2 k x7 t321 (([] : List (List (S42)))) 1))
def spec_l06Holes.l1 : Nat → List (S42) → Int → Int → Int → Int → List (S42) → Int → Int → Option ((List (List (S42))))
 | 0, _, _, _, _, _, _, _, _ => none
 | k + 1, x0, x3, x4, x5, x6, x7, x8, x9 => if x9 ≤ (wrap64 (x3 + x5)) then ((spec_l02Index.f k x0 x9 x8).bind fun t317 => (if t317 < 0 then (if x7.length < 8796093022208 then (spec_l06Holes.l1 k x0 x3 x4 x5 x6 (x7 ++ [(⟨x9, x8⟩ : S42)]) x8 (wrap64 (x9 + 1))) else (none)) else (spec_l06Holes.l1 k x0 x3 x4 x5 x6 x7 x8 (wrap64 (x9 + 1))))) else (spec_l06Holes.l0 k x0 x3 x4 x5 x6 x7 (wrap64 (x8 + 1)))
def spec_l06Holes.l2 : Nat → List (S42) → List Int → List (List (S42)) → Int → Option ((List (List (S42))))
 | 0, _, _, _, _ => none
 | k + 1, x7, x10, x11, x12 => if x12 < (x7.length : Int) then (if 0 ≤ x12 then (if x12 < (x10.length : Int) then (if (rd x10 x12) = x12 then (spec_l06Holes.l3 k x7 x10 x11 x12 (([] : List (S42))) x12) else (spec_l06Holes.l2 k x7 x10 x11 (wrap64 (x12 + 1)))) else (none)) else (none)) else (some x11)
def spec_l06Holes.l3 : Nat → List (S42) → List Int → List (List (S42)) → Int → List (S42) → Int → Option ((List (List (S42))))
 | 0, _, _, _, _, _, _ => none
 | k + 1, x7, x10, x11, x12, x13, x14 => if x14 < (x7.length : Int) then (if 0 ≤ x14 then (if x14 < (x10.length : Int) then (if (rd x10 x14) = x12 then (if x13.length < 8796093022208 then (spec_l06Holes.l3 k x7 x10 x11 x12 (x13 ++ [(⟨(rd_T42 x7 x14).f0, (rd_T42 x7 x14).f1⟩ : S42)]) (wrap64 (x14 + 1))) else (none)) else (spec_l06Holes.l3 k x7 x10 x11 x12 x13 (wrap64 (x14 + 1)))) else (none)) else (none)) else (if x11.length < 5864062014805 then (spec_l06Holes.l2 k x7 x10 (x11 ++ [x13]) (wrap64 (x12 + 1))) else (none))
end
def spec_l06Holes.f (k : Nat) (l0 : List (S42)) : Option ((List (List (S42)))) := (spec_l02Least.f k l0).bind fun bt310 => ((spec_l04Size.f k l0).bind fun bt312 => (spec_l06Holes.l0 k l0 bt310.1 bt310.2 bt312.1 bt312.2 (([] : List (S42))) (wrap64 (bt310.2 - 1))))
theorem spec_l06Holes.mono_l : ∀ k, (∀ y0 y1 y2 y3 y4 y5 y6, LeO (spec_l06Holes.l0 k y0 y1 y2 y3 y4 y5 y6) (spec_l06Holes.l0 (k + 1) y0 y1 y2 y3 y4 y5 y6)) ∧ (∀ y0 y1 y2 y3 y4 y5 y6 y7, LeO (spec_l06Holes.l1 k y0 y1 y2 y3 y4 y5 y6 y7) (spec_l06Holes.l1 (k + 1) y0 y1 y2 y3 y4 y5 y6 y7)) ∧ (∀ y0 y1 y2 y3, LeO (spec_l06Holes.l2 k y0 y1 y2 y3) (spec_l06Holes.l2 (k + 1) y0 y1 y2 y3)) ∧ (∀ y0 y1 y2 y3 y4 y5, LeO (spec_l06Holes.l3 k y0 y1 y2 y3 y4 y5) (spec_l06Holes.l3 (k + 1) y0 y1 y2 y3 y4 y5))
 | 0 => ⟨fun _ _ _ _ _ _ _ r h => by simp [spec_l06Holes.l0] at h, fun _ _ _ _ _ _ _ _ r h => by simp [spec_l06Holes.l1] at h, fun _ _ _ _ r h => by simp [spec_l06Holes.l2] at h, fun _ _ _ _ _ _ r h => by simp [spec_l06Holes.l3] at h⟩
 | k + 1 => by
  obtain ⟨ih0, ih1, ih2, ih3⟩ := spec_l06Holes.mono_l k
  refine ⟨?_, ?_, ?_, ?_⟩
  ·intro y0 y1 y2 y3 y4 y5 y6
   unfold spec_l06Holes.l0
   repeat' first
   | (with_reducible exact ih0 _ _ _ _ _ _ _)
   | (with_reducible exact ih1 _ _ _ _ _ _ _ _)
   | (with_reducible exact ih2 _ _ _ _)
   | (with_reducible exact ih3 _ _ _ _ _ _)
   | (with_reducible exact spec_l02Index.mono _ _ _ _)
   | (with_reducible exact spec_l02Least.mono _ _)
   | (with_reducible exact spec_l02Parts.mono _ _)
   | (with_reducible exact spec_l04Size.mono _ _)
   | (with_reducible exact LeO.refl _)
   | (with_reducible exact LeO.none _)
   | (with_reducible refine LeO.ite ?_ ?_)
   | (with_reducible refine LeO.bind ?_ (fun _ => ?_))
   | exact ih0 _ _ _ _ _ _ _
   | exact ih1 _ _ _ _ _ _ _ _
   | exact ih2 _ _ _ _
   | exact ih3 _ _ _ _ _ _
   | exact spec_l02Index.mono _ _ _ _
   | exact spec_l02Least.mono _ _
   | exact spec_l02Parts.mono _ _
   | exact spec_l04Size.mono _ _
   | exact LeO.none _
   | refine LeO.ite ?_ ?_
   | refine LeO.bind ?_ (fun _ => ?_)
  ·intro y0 y1 y2 y3 y4 y5 y6 y7
   unfold spec_l06Holes.l1
   repeat' first
   | (with_reducible exact ih0 _ _ _ _ _ _ _)
   | (with_reducible exact ih1 _ _ _ _ _ _ _ _)
   | (with_reducible exact ih2 _ _ _ _)
   | (with_reducible exact ih3 _ _ _ _ _ _)
   | (with_reducible exact spec_l02Index.mono _ _ _ _)
   | (with_reducible exact spec_l02Least.mono _ _)
   | (with_reducible exact spec_l02Parts.mono _ _)
   | (with_reducible exact spec_l04Size.mono _ _)
   | (with_reducible exact LeO.refl _)
   | (with_reducible exact LeO.none _)
   | (with_reducible refine LeO.ite ?_ ?_)
   | (with_reducible refine LeO.bind ?_ (fun _ => ?_))
   | exact ih0 _ _ _ _ _ _ _
   | exact ih1 _ _ _ _ _ _ _ _
   | exact ih2 _ _ _ _
   | exact ih3 _ _ _ _ _ _
   | exact spec_l02Index.mono _ _ _ _
   | exact spec_l02Least.mono _ _
   | exact spec_l02Parts.mono _ _
   | exact spec_l04Size.mono _ _
   | exact LeO.none _
   | refine LeO.ite ?_ ?_
   | refine LeO.bind ?_ (fun _ => ?_)
  ·intro y0 y1 y2 y3
   unfold spec_l06Holes.l2
   repeat' first
   | (with_reducible exact ih0 _ _ _ _ _ _ _)
   | (with_reducible exact ih1 _ _ _ _ _ _ _ _)
   | (with_reducible exact ih2 _ _ _ _)
   | (with_reducible exact ih3 _ _ _ _ _ _)
   | (with_reducible exact spec_l02Index.mono _ _ _ _)
   | (with_reducible exact spec_l02Least.mono _ _)
   | (with_reducible exact spec_l02Parts.mono _ _)
   | (with_reducible exact spec_l04Size.mono _ _)
   | (with_reducible exact LeO.refl _)
   | (with_reducible exact LeO.none _)
   | (with_reducible refine LeO.ite ?_ ?_)
   | (with_reducible refine LeO.bind ?_ (fun _ => ?_))
   | exact ih0 _ _ _ _ _ _ _
   | exact ih1 _ _ _ _ _ _ _ _
   | exact ih2 _ _ _ _
   | exact ih3 _ _ _ _ _ _
   | exact spec_l02Index.mono _ _ _ _
   | exact spec_l02Least.mono _ _
   | exact spec_l02Parts.mono _ _
   | exact spec_l04Size.mono _ _
   | exact LeO.none _
   | refine LeO.ite ?_ ?_
   | refine LeO.bind ?_ (fun _ => ?_)
  ·intro y0 y1 y2 y3 y4 y5
   unfold spec_l06Holes.l3
   repeat' first
   | (with_reducible exact ih0 _ _ _ _ _ _ _)
   | (with_reducible exact ih1 _ _ _ _ _ _ _ _)
   | (with_reducible exact ih2 _ _ _ _)
   | (with_reducible exact ih3 _ _ _ _ _ _)
   | (with_reducible exact spec_l02Index.mono _ _ _ _)
   | (with_reducible exact spec_l02Least.mono _ _)
   | (with_reducible exact spec_l02Parts.mono _ _)
   | (with_reducible exact spec_l04Size.mono _ _)
   | (with_reducible exact LeO.refl _)
   | (with_reducible exact LeO.none _)
   | (with_reducible refine LeO.ite ?_ ?_)
   | (with_reducible refine LeO.bind ?_ (fun _ => ?_))
   | exact ih0 _ _ _ _ _ _ _
   | exact ih1 _ _ _ _ _ _ _ _
   | exact ih2 _ _ _ _
   | exact ih3 _ _ _ _ _ _
   | exact spec_l02Index.mono _ _ _ _
   | exact spec_l02Least.mono _ _
   | exact spec_l02Parts.mono _ _
   | exact spec_l04Size.mono _ _
   | exact LeO.none _
   | refine LeO.ite ?_ ?_
   | refine LeO.bind ?_ (fun _ => ?_)
theorem spec_l06Holes.mono : ∀ a0 k, LeO (spec_l06Holes.f k a0) (spec_l06Holes.f (k + 1) a0) := by
 intro a0 k
 obtain ⟨ih0, ih1, ih2, ih3⟩ := spec_l06Holes.mono_l k
 unfold spec_l06Holes.f
 repeat' first
   | (with_reducible exact ih0 _ _ _ _ _ _ _)
   | (with_reducible exact ih1 _ _ _ _ _ _ _ _)
   | (with_reducible exact ih2 _ _ _ _)
   | (with_reducible exact ih3 _ _ _ _ _ _)
   | (with_reducible exact spec_l02Index.mono _ _ _ _)
   | (with_reducible exact spec_l02Least.mono _ _)
   | (with_reducible exact spec_l02Parts.mono _ _)
   | (with_reducible exact spec_l04Size.mono _ _)
   | (with_reducible exact LeO.refl _)
   | (with_reducible exact LeO.none _)
   | (with_reducible refine LeO.ite ?_ ?_)
   | (with_reducible refine LeO.bind ?_ (fun _ => ?_))
   | exact ih0 _ _ _ _ _ _ _
   | exact ih1 _ _ _ _ _ _ _ _
   | exact ih2 _ _ _ _
   | exact ih3 _ _ _ _ _ _
   | exact spec_l02Index.mono _ _ _ _
   | exact spec_l02Least.mono _ _
   | exact spec_l02Parts.mono _ _
   | exact spec_l04Size.mono _ _
   | exact LeO.none _
   | refine LeO.ite ?_ ?_
   | refine LeO.bind ?_ (fun _ => ?_)
set_option maxHeartbeats 8000000 in
set_option maxRecDepth 100000 in
theorem spec_l06Holes.calls (k : Nat) (A0 : Option Addr) (c0 : Nat) (l0 : List (S42)) (r : List (List (S42))) (w : World) (hr0 : Kd.C k42 w A0 l0.length l0) (hc0 : l0.length ≤ c0) (h : spec_l06Holes.f k l0 = some r) :
  Calls Tryd.prog 69 #[.slice A0 l0.length c0] w fun e w' => ∃ v0_ : Value, e = .returned (v0_) ∧ Kd.S (Kd.slice 42 k42) 61 w' w.heap.size (fun _ => True) v0_ r ∧ Below w.heap.size w w' := by
 have hu42 := Tryd.underlying42
 have HR0 := am hr0
 have HC0 := am hc0
 clear hr0 hc0
 have HB := am (Below.refl w.heap.size w)
 have H : ((spec_l02Least.f k l0).bind fun bt310 => ((spec_l04Size.f k l0).bind fun bt312 => (spec_l06Holes.l0 k l0 bt310.1 bt310.2 bt312.1 bt312.2 (([] : List (S42))) (wrap64 (bt310.2 - 1))))) = some r := h
 clear h
 replace H := ob H
 obtain ⟨⟨t310, t311⟩, A20, H⟩ := H
 (try dsimp only at H)
 have A2 := am A20
 clear A20
 replace H := ob H
 obtain ⟨⟨t312, t313⟩, A30, H⟩ := H
 (try dsimp only at H)
 have A3 := am A30
 clear A30
 obtain ⟨y314, hy314⟩ : ∃ y_ : List (S42), y_ = (([] : List (S42))) := ⟨_, rfl⟩
 replace H : (spec_l06Holes.l0 k l0 t310 t311 t312 t313 y314 (wrap64 (t311 - 1))) = some r := by first | (rw [hy314]; with_reducible exact H) | (have H2_ := (Option.bind_some _ _).symm.trans H; rw [hy314]; with_reducible exact H2_) | (have H2_ := (Option.bind_some _ _).symm.trans H; with_reducible exact H2_) | with_reducible exact H | (rw [hy314]; exact H) | exact H
 have Ny314 := am hy314
 clear hy314
 have H' := am H
 clear H
 go_enter Tryd.func69, Tryd.ntmps69
 go_wp2_with (first | ((with_reducible refine gate_callee (f := 78) rfl ?_); refine goesL_ (some 17) rfl rfl Tryd.func78 (by kernel_rfl) rfl #[.slice A0 l0.length c0] rfl zL ?_; (with_reducible refine (spec_l02Least.calls k _ _ l0 t310 t311 _ ?side1 ?side2 A2.out).mono ?_); (case side1 => repeat (first | exact HR0.out | (with_reducible refine Kd.C_alloc ?_ _) | (with_reducible refine Kd.C_drewN ?_ _) | (with_reducible refine Kd.C_drew ?_))); (case side2 => exact HC0.out); rintro e w4 ⟨rfl, hb⟩; refine ⟨_, rfl, ?_⟩; have n0_ := am (Bb6 zB hb); clear HB; have HB := n0_; clear n0_; (try clear hb); (try clear hb2); (try clear hk); (try clear hi)) | ((with_reducible refine gate_callee (f := 83) rfl ?_); refine goesL_ (some 22) rfl rfl Tryd.func83 (by kernel_rfl) rfl #[.slice A0 l0.length c0] rfl zL ?_; (with_reducible refine (spec_l04Size.calls k _ _ l0 t312 t313 _ ?side1 ?side2 A3.out).mono ?_); (case side1 => repeat (first | exact (Kd.C_below HR0.out HB.out) | (with_reducible refine Kd.C_alloc ?_ _) | (with_reducible refine Kd.C_drewN ?_ _) | (with_reducible refine Kd.C_drew ?_))); (case side2 => exact HC0.out); rintro e w5 ⟨rfl, hb⟩; refine ⟨_, rfl, ?_⟩; have n0_ := am (Bb6 zB hb); clear HB; have HB := n0_; clear n0_; (try clear hb); (try clear hb2); (try clear hk); (try clear hi)) | ((with_reducible refine gate_dst (N := 25) rfl ?_); refine Kd.R_lit k42 _ 42 ?hg (N := 25) ?hd (xs := ([] : List (S42))) (inner := []) (ok := fun _ => True) (okp := fun _ => True) ?hr ?hp (fun _ hk => hk) trivial (Below.refl _ _) (Nat.le_refl _) (by simp) ?_; (case hd => rfl); (case hg => rfl); (case hr => first | (go_simp; done) | (go_simp; rfl)); (case hp => exact (Reps.none _ _)); intro v315 w6 ho7 hb hg_ hnew_; clear hg_ hnew_; (first | rw [← Ny314.out] at ho7 | (simp only [Int.reduceToNat] at ho7; rw [← Ny314.out] at ho7)); have n0_ := am (Kd.R_lower ho7 (Bb5 zB)); have n1_ := am (Bb6 zB hb); clear HB; have HO316 := n0_; have HB := n1_; clear n0_ n1_; clear hb ho7))
 go_loopg [7, 8] k (fun kq v7 v8 w' => ∃ (x7_1 : List (S42)) (x8_1 : Int), v8 = .int .i64 x8_1 ∧ Aside0 (spec_l06Holes.l0 kq l0 t310 t311 t312 t313 x7_1 x8_1 = some r) ∧ Aside0 (kq ≤ k) ∧ Aside0 (Kd.R k42 42 w' w.heap.size (fun _ => True) v7 x7_1) ∧ Aside0 (Below w.heap.size w w'))
 case atStart => exact ⟨(y314), (wrap64 (t311 - 1)), zS, H', ⟨Nat.le_refl _⟩, ⟨zR HO316⟩, ⟨zB⟩⟩
 case round =>
  clear H'
  try clear p2
  try clear c6
  try clear p6
  try clear c7
  obtain ⟨x7_1, x8_1, rfl, HA, HK1, HO_7, HB⟩ := hrel
  cases gk with
  | zero => exact absurd HA.out (by simp [spec_l06Holes.l0])
  | succ k1 =>
   have H := HA.out
   clear HA
   simp only [spec_l06Holes.l0] at H
   by_cases c8 : x8_1 ≤ (wrap64 (t311 + t313))
   ·rw [if_pos c8] at H
    have c8b0 : decide (x8_1 ≤ (wrap64 (t311 + t313))) = true := decide_eq_true c8
    clear c8
    have H' := am H
    clear H
    go_wp2
    go_loopg [7, 9] k1 (fun kq v7 v9 w' => ∃ (x7_2 : List (S42)) (x9_2 : Int), v9 = .int .i64 x9_2 ∧ Aside0 (spec_l06Holes.l1 kq l0 t310 t311 t312 t313 x7_2 x8_1 x9_2 = some r) ∧ Aside0 (kq ≤ k1) ∧ Aside0 (Kd.R k42 42 w' w.heap.size (fun _ => True) v7 x7_2) ∧ Aside0 (Below w.heap.size w w'))
    case atStart => exact ⟨(x7_1), (wrap64 (t310 - 1)), zS, H', ⟨Nat.le_refl _⟩, ⟨zR HO_7⟩, ⟨zB⟩⟩
    case round =>
     clear H'
     try clear p2
     try clear c6
     try clear p6
     try clear c7
     try clear c8
     try clear c8b0
     try clear p2
     try clear p6
     obtain ⟨x7_2, x9_2, rfl, HA, HK2, HO_7, HB⟩ := hrel
     cases gk with
     | zero => exact absurd HA.out (by simp [spec_l06Holes.l1])
     | succ k2 =>
      have H := HA.out
      clear HA
      simp only [spec_l06Holes.l1] at H
      by_cases c9 : x9_2 ≤ (wrap64 (t310 + t312))
      rotate_left
      ·rw [if_neg c9] at H
       have c9b0 : decide (x9_2 ≤ (wrap64 (t310 + t312))) = false := decide_eq_false c9
       clear c9
       have H' := am H
       clear H
       go_wp2
       go_roundg k2
       case measure => have := HK1.out; have := HK2.out; omega
       case rel => exact ⟨(x7_2), (wrap64 (x8_1 + 1)), zS, H', ⟨by have := HK1.out; have := HK2.out; omega⟩, ⟨zR HO_7⟩, ⟨zB⟩⟩
      rw [if_pos c9] at H
      have c9b0 : decide (x9_2 ≤ (wrap64 (t310 + t312))) = true := decide_eq_true c9
      clear c9
      replace H := ob H
      obtain ⟨t317, A100, H⟩ := H
      (try dsimp only at H)
      have A10 := am A100
      clear A100
      by_cases c11 : t317 < 0
      rotate_left
      ·rw [if_neg c11] at H
       have c11b0 : decide (t317 < 0) = false := decide_eq_false c11
       clear c11
       have H' := am H
       clear H
       go_wp2_with (first | ((with_reducible refine gate_callee (f := 70) rfl ?_); refine goesL_ (some 48) rfl rfl Tryd.func70 (by kernel_rfl) rfl #[.slice A0 l0.length c0, .agg #[.int .i64 x9_2, .int .i64 x8_1]] rfl zL ?_; (with_reducible refine (spec_l02Index.calls k2 _ _ l0 x9_2 x8_1 t317 _ ?side1 ?side2 A10.out).mono ?_); (case side1 => repeat (first | exact (Kd.C_below HR0.out HB.out) | (with_reducible refine Kd.C_alloc ?_ _) | (with_reducible refine Kd.C_drewN ?_ _) | (with_reducible refine Kd.C_drew ?_))); (case side2 => exact HC0.out); rintro e w15 ⟨rfl, hb⟩; refine ⟨_, rfl, ?_⟩; have n0_ := am (Kd.R_below (zR HO_7) hb); have n1_ := am (Bb6 zB hb); clear HO_7; clear HB; have HO_7 := n0_; have HB := n1_; clear n0_ n1_; (try clear hb); (try clear hb2); (try clear hk); (try clear hi)))
       go_roundg k2
       case measure => have := HK1.out; have := HK2.out; omega
       case rel => exact ⟨(x7_2), (wrap64 (x9_2 + 1)), zS, H', ⟨by have := HK1.out; have := HK2.out; omega⟩, ⟨zR HO_7⟩, ⟨zB⟩⟩
      rw [if_pos c11] at H
      have c11b0 : decide (t317 < 0) = true := decide_eq_true c11
      clear c11
      by_cases c12 : x7_2.length < 8796093022208
      rotate_left
      ·rw [if_neg c12] at H
       exact absurd H (by simp)
      rw [if_pos c12] at H
      have LMc12 := am c12
      clear c12
      obtain ⟨y318, hy318⟩ : ∃ y_ : List (S42), y_ = (x7_2 ++ [(⟨x9_2, x8_1⟩ : S42)]) := ⟨_, rfl⟩
      replace H : (spec_l06Holes.l1 k2 l0 t310 t311 t312 t313 y318 x8_1 (wrap64 (x9_2 + 1))) = some r := by first | (rw [hy318]; with_reducible exact H) | (have H2_ := (Option.bind_some _ _).symm.trans H; rw [hy318]; with_reducible exact H2_) | (have H2_ := (Option.bind_some _ _).symm.trans H; with_reducible exact H2_) | with_reducible exact H | (rw [hy318]; exact H) | exact H
      have Ny318 := am hy318
      clear hy318
      have H' := am H
      clear H
      go_wp2_with (first | ((with_reducible refine gate_callee (f := 70) rfl ?_); refine goesL_ (some 48) rfl rfl Tryd.func70 (by kernel_rfl) rfl #[.slice A0 l0.length c0, .agg #[.int .i64 x9_2, .int .i64 x8_1]] rfl zL ?_; (with_reducible refine (spec_l02Index.calls k2 _ _ l0 x9_2 x8_1 t317 _ ?side1 ?side2 A10.out).mono ?_); (case side1 => repeat (first | exact (Kd.C_below HR0.out HB.out) | (with_reducible refine Kd.C_alloc ?_ _) | (with_reducible refine Kd.C_drewN ?_ _) | (with_reducible refine Kd.C_drew ?_))); (case side2 => exact HC0.out); rintro e w13 ⟨rfl, hb⟩; refine ⟨_, rfl, ?_⟩; have n0_ := am (Kd.R_below (zR HO_7) hb); have n1_ := am (Bb6 zB hb); clear HO_7; clear HB; have HO_7 := n0_; have HB := n1_; clear n0_ n1_; (try clear hb); (try clear hb2); (try clear hk); (try clear hi)) | ((with_reducible refine gate_builtin (b := .append) (xs := #[.tmp 50, .tmp 54]) rfl ?_); at_builtin; refine Kd.R_append k42 (w0 := w) w.heap.size rfl (.tmp 50) (.tmp 54) 61 42 (.agg #[(.int .i64 0), (.int .i64 0)]) 16 rfl Tryd.underlying61 info42 rfl (by decide) (by omega) u7 x7_2 (⟨x9_2, x8_1⟩ : S42) [.int .i64 x9_2, .int .i64 x8_1] (fun _ => True) (fun _ => False) rfl rfl ?aP (fun _ hk => hk.elim) ?aF ?aO ?aB ?aS ?aL ?_; (case aP => exact k42_mkM _ _ _ (⟨x9_2, x8_1⟩ : S42)); (case aB => exact zB); (case aF => exact (fun _ _ => trivial)); (case aO => exact (zR HO_7)); (case aS => exact (Bb5 zB)); (case aL => have := LMc12.out; omega); intro v319 w14 ho hb hg hat; rw [← Ny318.out] at ho; have n0_ := am (hb); have n1_ := am (ho); clear HB; clear HO_7; have HB := n0_; have HO320 := n1_; clear n0_ n1_; clear ho hb hg hat))
      go_roundg k2
      case measure => have := HK1.out; have := HK2.out; omega
      case rel => exact ⟨(y318), (wrap64 (x9_2 + 1)), zS, H', ⟨by have := HK1.out; have := HK2.out; omega⟩, ⟨zR HO320⟩, ⟨zB⟩⟩
   rw [if_neg c8] at H
   have c8b0 : decide (x8_1 ≤ (wrap64 (t311 + t313))) = false := decide_eq_false c8
   clear c8
   replace H := ob H
   obtain ⟨t321, A160, H⟩ := H
   (try dsimp only at H)
   have A16 := am A160
   clear A160
   obtain ⟨y324, hy324⟩ : ∃ y_ : List (List (S42)), y_ = (([] : List (List (S42)))) := ⟨_, rfl⟩
   replace H : (spec_l06Holes.l2 k1 x7_1 t321 y324 1) = some r := by first | (rw [hy324]; with_reducible exact H) | (have H2_ := (Option.bind_some _ _).symm.trans H; rw [hy324]; with_reducible exact H2_) | (have H2_ := (Option.bind_some _ _).symm.trans H; with_reducible exact H2_) | with_reducible exact H | (rw [hy324]; exact H) | exact H
   have Ny324 := am hy324
   clear hy324
   have H' := am H
   clear H
   obtain ⟨Ao17, co17, eo17⟩ := Kd.R_slice HO_7.out
   subst eo17
   go_wp2_with (first | ((with_reducible refine gate_callee (f := 82) rfl ?_); refine goesL_ (some 57) rfl rfl Tryd.func82 (by kernel_rfl) rfl #[.slice Ao17 x7_1.length co17] rfl zL ?_; (with_reducible refine (spec_l02Parts.calls k1 _ _ x7_1 t321 _ ?side1 ?side2 A16.out).mono ?_); (case side1 => repeat (first | exact (Kd.R_reads' HO_7.out).2.2 | (with_reducible refine Kd.C_alloc ?_ _) | (with_reducible refine Kd.C_drewN ?_ _) | (with_reducible refine Kd.C_drew ?_))); (case side2 => exact (Kd.R_reads' HO_7.out).2.1); rintro e w18 ⟨v322, rfl, ho0, hb⟩; refine ⟨_, rfl, ?_⟩; have n0_ := am (Kd.R_below (zR HO_7) hb); have n1_ := am (Kd.R_lower ho0 (Bb5 zB)); have n2_ := am (Bb6 zB hb); clear HO_7; clear HB; have HO_7 := n0_; have HO323 := n1_; have HB := n2_; clear n0_ n1_ n2_; (try clear hb); (try clear hb2); (try clear hk); (try clear hi); (try clear ho0)) | ((with_reducible refine gate_dst (N := 58) rfl ?_); refine Kd.S_lit (Kd.slice 42 k42) _ 61 ?hg (N := 58) ?hd (xs := ([] : List (List (S42)))) (inner := []) (ok := fun _ => True) (okp := fun _ => True) ?hr ?hp (fun _ hk => hk) trivial (Below.refl _ _) (Nat.le_refl _) (by simp) ?_; (case hd => rfl); (case hg => rfl); (case hr => first | (go_simp; done) | (go_simp; rfl)); (case hp => exact (Reps.none _ _)); intro v325 w19 ho20 hb hg_ hnew_; clear hg_ hnew_; (first | rw [← Ny324.out] at ho20 | (simp only [Int.reduceToNat] at ho20; rw [← Ny324.out] at ho20)); have n0_ := am (Kd.R_below (zR HO_7) hb); have n1_ := am (Kd.R_below (zR HO323) hb); have n2_ := am (Kd.S_lower (Kd.S_new' ho20 (Kd.R_lt (zR HO_7))) (Bb5 zB)); have n3_ := am (Bb6 zB hb); clear HO_7; clear HO323; clear HB; have HO_7 := n0_; have HO323 := n1_; have HO326 := n2_; have HB := n3_; clear n0_ n1_ n2_ n3_; clear hb ho20))
   go_loopg [11, 12] k1 (fun kq v11 v12 w' => ∃ (x11_2 : List (List (S42))) (x12_2 : Int), v12 = .int .i64 x12_2 ∧ Aside0 (spec_l06Holes.l2 kq x7_1 t321 x11_2 x12_2 = some r) ∧ Aside0 (kq ≤ k1) ∧ Aside0 (Kd.R k42 42 w' w.heap.size (fun _ => True) (.slice Ao17 x7_1.length co17) x7_1) ∧ Aside0 (Kd.R (Kd.int .i64) 2 w' w.heap.size (fun _ => True) v322 t321) ∧ Aside0 (Kd.S (Kd.slice 42 k42) 61 w' w.heap.size (fun k_ => some k_ ≠ ((.slice Ao17 x7_1.length co17) : Value).ownBlock) v11 x11_2) ∧ Aside0 (Below w.heap.size w w'))
   case atStart => exact ⟨(y324), (1), zS, H', ⟨Nat.le_refl _⟩, ⟨zR HO_7⟩, ⟨zR HO323⟩, ⟨by (with_reducible repeat (first | apply Kd.S_alloc | apply Kd.S_drewN | apply Kd.S_drew)); exact Kd.S_mono HO326.out (fun _ hk => hk.2)⟩, ⟨zB⟩⟩
   case round =>
    clear H'
    try clear c1
    try clear p2
    try clear c6
    try clear p6
    try clear c7
    try clear c8
    try clear c8b0
    try clear c9
    try clear c9b0
    try clear c11
    try clear c11b0
    try clear c12
    try clear p2
    try clear p6
    obtain ⟨x11_2, x12_2, rfl, HA, HK2, HO_7, HO_10, HO_11, HB⟩ := hrel
    cases gk with
    | zero => exact absurd HA.out (by simp [spec_l06Holes.l2])
    | succ k2 =>
     have H := HA.out
     clear HA
     simp only [spec_l06Holes.l2] at H
     by_cases c21 : x12_2 < (x7_1.length : Int)
     rotate_left
     ·rw [if_neg c21] at H
      have c21b0 : decide (x12_2 < (x7_1.length : Int)) = false := decide_eq_false c21
      clear c21
      obtain rfl := oi H
      go_wp2
      go_ret
      exact ⟨_, zE, by (with_reducible repeat (first | apply Kd.S_alloc | apply Kd.S_drewN | apply Kd.S_drew)); exact Kd.S_mono HO_11.out (fun _ hk => trivial), zB⟩
     rw [if_pos c21] at H
     have c21b0 : decide (x12_2 < (x7_1.length : Int)) = true := decide_eq_true c21
     clear c21
     by_cases c22 : 0 ≤ x12_2
     rotate_left
     ·rw [if_neg c22] at H
      exact absurd H (by simp)
     rw [if_pos c22] at H
     have c22b0 : decide (0 ≤ x12_2) = true := decide_eq_true c22
     clear c22
     by_cases c23 : x12_2 < (t321.length : Int)
     rotate_left
     ·rw [if_neg c23] at H
      exact absurd H (by simp)
     rw [if_pos c23] at H
     have c23b0 : decide (x12_2 < (t321.length : Int)) = true := decide_eq_true c23
     clear c23
     by_cases c24 : (rd t321 x12_2) = x12_2
     rotate_left
     ·rw [if_neg c24] at H
      have c24b0 : ((rd t321 x12_2) == x12_2) = false := beq_eq_false_iff_ne.mpr c24
      have c24b1 : ((rd t321 x12_2) != x12_2) = true := bne_iff_ne.mpr c24
      have H' := am H
      clear H
      obtain ⟨Ao37, co37, eo37⟩ := Kd.R_slice HO_10.out
      subst eo37
      have p327 : 0 ≤ (x12_2 : Int) := zD
      have q327 : x12_2 < (t321.length : Int) := zD
      obtain ⟨ad327, e327, hx327_0⟩ := Kd.at_int (Kd.R_reads' HO_10.out).2.2 x12_2 p327 q327
      cases e327
      replace p327 := eq_true p327
      replace q327 := eq_true q327
      go_wp2
      go_roundg k2
      case measure => have := HK1.out; have := HK2.out; omega
      case rel => exact ⟨(x11_2), (wrap64 (x12_2 + 1)), zS, H', ⟨by have := HK1.out; have := HK2.out; omega⟩, ⟨zR HO_7⟩, ⟨zR HO_10⟩, ⟨by (with_reducible repeat (first | apply Kd.S_alloc | apply Kd.S_drewN | apply Kd.S_drew)); exact HO_11.out⟩, ⟨zB⟩⟩
     rw [if_pos c24] at H
     have c24b0 : ((rd t321 x12_2) == x12_2) = true := beq_iff_eq.mpr c24
     have c24b1 : ((rd t321 x12_2) != x12_2) = false := bne_eq_false_iff_eq.mpr c24
     clear c24
     obtain ⟨y328, hy328⟩ : ∃ y_ : List (S42), y_ = (([] : List (S42))) := ⟨_, rfl⟩
     replace H : (spec_l06Holes.l3 k2 x7_1 t321 x11_2 x12_2 y328 x12_2) = some r := by first | (rw [hy328]; with_reducible exact H) | (have H2_ := (Option.bind_some _ _).symm.trans H; rw [hy328]; with_reducible exact H2_) | (have H2_ := (Option.bind_some _ _).symm.trans H; with_reducible exact H2_) | with_reducible exact H | (rw [hy328]; exact H) | exact H
     have Ny328 := am hy328
     clear hy328
     have H' := am H
     clear H
     obtain ⟨Ao25, co25, eo25⟩ := Kd.R_slice HO_10.out
     subst eo25
     have p327 : 0 ≤ (x12_2 : Int) := zD
     have q327 : x12_2 < (t321.length : Int) := zD
     obtain ⟨ad327, e327, hx327_0⟩ := Kd.at_int (Kd.R_reads' HO_10.out).2.2 x12_2 p327 q327
     cases e327
     replace p327 := eq_true p327
     replace q327 := eq_true q327
     go_wp2_with (first | ((with_reducible refine gate_dst (N := 71) rfl ?_); refine Kd.R_lit k42 _ 42 ?hg (N := 71) ?hd (xs := ([] : List (S42))) (inner := []) (ok := fun _ => True) (okp := fun _ => True) ?hr ?hp (fun _ hk => hk) trivial (Below.refl _ _) (Nat.le_refl _) (by simp) ?_; (case hd => rfl); (case hg => rfl); (case hr => first | (go_simp; done) | (go_simp; rfl)); (case hp => exact (Reps.none _ _)); intro v329 w26 ho27 hb hg_ hnew_; clear hg_ hnew_; (first | rw [← Ny328.out] at ho27 | (simp only [Int.reduceToNat] at ho27; rw [← Ny328.out] at ho27)); have n0_ := am (Kd.R_elder' (zR HO_7) (Kd.R_base ho27) hb); have n1_ := am (Kd.R_below (zR HO_10) hb); have n2_ := am (Kd.S_elder' (by (with_reducible repeat (first | apply Kd.S_alloc | apply Kd.S_drewN | apply Kd.S_drew)); exact HO_11.out) (Kd.R_base ho27) hb); have n3_ := am (Kd.R_lower (Kd.R_new' ho27 (Kd.R_lt (zR HO_7))) (Bb5 zB)); have n4_ := am (Bb6 zB hb); clear HO_7; clear HO_10; clear HO_11; clear HB; have HO_7 := n0_; have HO_10 := n1_; have HO_11 := n2_; have HO330 := n3_; have HB := n4_; clear n0_ n1_ n2_ n3_ n4_; clear hb ho27))
     go_loopg [13, 14] k2 (fun kq v13 v14 w' => ∃ (x13_3 : List (S42)) (x14_3 : Int), v14 = .int .i64 x14_3 ∧ Aside0 (spec_l06Holes.l3 kq x7_1 t321 x11_2 x12_2 x13_3 x14_3 = some r) ∧ Aside0 (kq ≤ k2) ∧ Aside0 (Kd.R k42 42 w' w.heap.size (fun k_ => some k_ ≠ (v13 : Value).ownBlock) (.slice Ao17 x7_1.length co17) x7_1) ∧ Aside0 (Kd.R (Kd.int .i64) 2 w' w.heap.size (fun _ => True) (.slice (some ad327) t321.length co25) t321) ∧ Aside0 (Kd.S (Kd.slice 42 k42) 61 w' w.heap.size (fun k_ => some k_ ≠ ((.slice Ao17 x7_1.length co17) : Value).ownBlock ∧ some k_ ≠ (v13 : Value).ownBlock) u11 x11_2) ∧ Aside0 (Kd.R k42 42 w' w.heap.size (fun k_ => some k_ ≠ ((.slice Ao17 x7_1.length co17) : Value).ownBlock) v13 x13_3) ∧ Aside0 (Below w.heap.size w w'))
     case atStart => exact ⟨(y328), (x12_2), zS, H', ⟨Nat.le_refl _⟩, ⟨by (with_reducible repeat (first | apply Kd.R_alloc | apply Kd.R_drewN | apply Kd.R_drew)); exact Kd.R_mono HO_7.out (fun _ hk => hk.2)⟩, ⟨zR HO_10⟩, ⟨by (with_reducible repeat (first | apply Kd.S_alloc | apply Kd.S_drewN | apply Kd.S_drew)); exact HO_11.out⟩, ⟨by (with_reducible repeat (first | apply Kd.R_alloc | apply Kd.R_drewN | apply Kd.R_drew)); exact Kd.R_mono HO330.out (fun _ hk => hk.2)⟩, ⟨zB⟩⟩
     case round =>
      clear H'
      try clear c1
      try clear c2
      try clear p2
      try clear p3
      try clear q3
      try clear hx3
      try clear c6
      try clear p6
      try clear c7
      try clear c8
      try clear c8b0
      try clear c9
      try clear c9b0
      try clear c11
      try clear c11b0
      try clear c12
      try clear c21
      try clear c21b0
      try clear c22
      try clear c22b0
      try clear c23
      try clear c23b0
      try clear c24
      try clear c24b0
      try clear c24b1
      try clear hx327_0
      try clear p2
      try clear p327
      try clear p6
      try clear q327
      obtain ⟨x13_3, x14_3, rfl, HA, HK3, HO_7, HO_10, HO_11, HO_13, HB⟩ := hrel
      cases gk with
      | zero => exact absurd HA.out (by simp [spec_l06Holes.l3])
      | succ k3 =>
       have H := HA.out
       clear HA
       simp only [spec_l06Holes.l3] at H
       by_cases c28 : x14_3 < (x7_1.length : Int)
       rotate_left
       ·rw [if_neg c28] at H
        have c28b0 : decide (x14_3 < (x7_1.length : Int)) = false := decide_eq_false c28
        clear c28
        by_cases c34 : x11_2.length < 5864062014805
        rotate_left
        ·rw [if_neg c34] at H
         exact absurd H (by simp)
        rw [if_pos c34] at H
        have LMc34 := am c34
        clear c34
        obtain ⟨y336, hy336⟩ : ∃ y_ : List (List (S42)), y_ = (x11_2 ++ [x13_3]) := ⟨_, rfl⟩
        replace H : (spec_l06Holes.l2 k3 x7_1 t321 y336 (wrap64 (x12_2 + 1))) = some r := by first | (rw [hy336]; with_reducible exact H) | (have H2_ := (Option.bind_some _ _).symm.trans H; rw [hy336]; with_reducible exact H2_) | (have H2_ := (Option.bind_some _ _).symm.trans H; with_reducible exact H2_) | with_reducible exact H | (rw [hy336]; exact H) | exact H
        have Ny336 := am hy336
        clear hy336
        have H' := am H
        clear H
        obtain ⟨Ao36, co36, eo36⟩ := Kd.R_slice HO_13.out
        subst eo36
        go_wp2_with (first | ((with_reducible refine gate_builtin (b := .append) (xs := #[.tmp 92, .tmp 94]) rfl ?_); at_builtin; refine Kd.S_append (Kd.slice 42 k42) (w0 := w) w.heap.size rfl (.tmp 92) (.tmp 94) 77 61 (.slice none 0 0) 24 rfl Tryd.underlying77 info61 rfl (by decide) (by omega) u11 x11_2 x13_3 [.slice Ao36 x13_3.length co36] (fun k_ => some k_ ≠ (.slice Ao17 x7_1.length co17 : Value).ownBlock) (fun k_ => some k_ = (.slice Ao36 x13_3.length co36 : Value).ownBlock) rfl rfl ?aP (fun k_ hk_ => ((Kd.R_mono (ok' := fun k_ => ((fun k_ => some k_ ≠ (.slice Ao17 x7_1.length co17 : Value).ownBlock)) k_ ∧ some k_ ≠ (u11 : Value).ownBlock) (Kd.R_apart' (HO_13.out) (Kd.S_typed HO_11.out) (by decide)) (fun k_ hk => ⟨hk.1, hk.2⟩))).1 k_ hk_.symm) ?aF ?aO ?aB ?aS ?aL ?_; (case aP => exact Kd.M_row (Kd.R_mono (Kd.R_tight rfl (Kd.R_mono (ok' := fun k_ => ((fun k_ => some k_ ≠ (.slice Ao17 x7_1.length co17 : Value).ownBlock)) k_ ∧ some k_ ≠ (u11 : Value).ownBlock) (Kd.R_apart' (HO_13.out) (Kd.S_typed HO_11.out) (by decide)) (fun k_ hk => ⟨hk.1, hk.2⟩))) (fun _ h_ => h_))); (case aB => exact zB); (case aF => exact (fun k_ hk => Kd.fresh' (Kd.R_lt (zR HO_7)) k_ hk)); (case aO => exact (by (with_reducible repeat (first | apply Kd.S_alloc | apply Kd.S_drewN | apply Kd.S_drew)); exact Kd.S_mono HO_11.out (fun k_ hk => ⟨hk.1, fun e_ => hk.2 e_⟩))); (case aS => exact (Bb5 zB)); (case aL => have := LMc34.out; omega); intro v337 w35 ho hb hg hat; rw [← Ny336.out] at ho; have n0_ := am (Kd.R_over' (zR HO_7) (Kd.S_typed (by (with_reducible repeat (first | apply Kd.S_alloc | apply Kd.S_drewN | apply Kd.S_drew)); exact HO_11.out)) (by decide) hg); have n1_ := am (Kd.R_over' (zR HO_10) (Kd.S_typed (by (with_reducible repeat (first | apply Kd.S_alloc | apply Kd.S_drewN | apply Kd.S_drew)); exact HO_11.out)) (by decide) hg); have n2_ := am (hb); have n3_ := am (ho); clear HO_7; clear HO_10; clear HB; clear HO_11; clear HO_13; have HO_7 := n0_; have HO_10 := n1_; have HB := n2_; have HO338 := n3_; clear n0_ n1_ n2_ n3_; clear ho hb hg hat))
        go_roundg k3
        case measure => have := HK1.out; have := HK2.out; have := HK3.out; omega
        case rel => exact ⟨(y336), (wrap64 (x12_2 + 1)), zS, H', ⟨by have := HK1.out; have := HK2.out; have := HK3.out; omega⟩, ⟨by (with_reducible repeat (first | apply Kd.R_alloc | apply Kd.R_drewN | apply Kd.R_drew)); exact Kd.R_mono HO_7.out (fun _ hk => trivial)⟩, ⟨zR HO_10⟩, ⟨by (with_reducible repeat (first | apply Kd.S_alloc | apply Kd.S_drewN | apply Kd.S_drew)); exact HO338.out⟩, ⟨zB⟩⟩
       rw [if_pos c28] at H
       have c28b0 : decide (x14_3 < (x7_1.length : Int)) = true := decide_eq_true c28
       clear c28
       by_cases c29 : 0 ≤ x14_3
       rotate_left
       ·rw [if_neg c29] at H
        exact absurd H (by simp)
       rw [if_pos c29] at H
       have c29b0 : decide (0 ≤ x14_3) = true := decide_eq_true c29
       clear c29
       by_cases c30 : x14_3 < (t321.length : Int)
       rotate_left
       ·rw [if_neg c30] at H
        exact absurd H (by simp)
       rw [if_pos c30] at H
       have c30b0 : decide (x14_3 < (t321.length : Int)) = true := decide_eq_true c30
       clear c30
       by_cases c31 : (rd t321 x14_3) = x12_2
       rotate_left
       ·rw [if_neg c31] at H
        have c31b0 : ((rd t321 x14_3) == x12_2) = false := beq_eq_false_iff_ne.mpr c31
        have c31b1 : ((rd t321 x14_3) != x12_2) = true := bne_iff_ne.mpr c31
        have H' := am H
        clear H
        have p331 : 0 ≤ (x14_3 : Int) := zD
        have q331 : x14_3 < (t321.length : Int) := zD
        obtain ⟨ad331, e331, hx331_0⟩ := Kd.at_int (Kd.R_reads' HO_10.out).2.2 x14_3 p331 q331
        obtain rfl : ad327 = ad331 := (by injection e331)
        replace p331 := eq_true p331
        replace q331 := eq_true q331
        go_wp2
        go_roundg k3
        case measure => have := HK1.out; have := HK2.out; have := HK3.out; omega
        case rel => exact ⟨(x13_3), (wrap64 (x14_3 + 1)), zS, H', ⟨by have := HK1.out; have := HK2.out; have := HK3.out; omega⟩, ⟨zR HO_7⟩, ⟨zR HO_10⟩, ⟨by (with_reducible repeat (first | apply Kd.S_alloc | apply Kd.S_drewN | apply Kd.S_drew)); exact HO_11.out⟩, ⟨zR HO_13⟩, ⟨zB⟩⟩
       rw [if_pos c31] at H
       have c31b0 : ((rd t321 x14_3) == x12_2) = true := beq_iff_eq.mpr c31
       have c31b1 : ((rd t321 x14_3) != x12_2) = false := bne_eq_false_iff_eq.mpr c31
       clear c31
       by_cases c32 : x13_3.length < 8796093022208
       rotate_left
       ·rw [if_neg c32] at H
        exact absurd H (by simp)
       rw [if_pos c32] at H
       have LMc32 := am c32
       clear c32
       obtain ⟨y333, hy333⟩ : ∃ y_ : List (S42), y_ = (x13_3 ++ [(⟨(rd_T42 x7_1 x14_3).f0, (rd_T42 x7_1 x14_3).f1⟩ : S42)]) := ⟨_, rfl⟩
       replace H : (spec_l06Holes.l3 k3 x7_1 t321 x11_2 x12_2 y333 (wrap64 (x14_3 + 1))) = some r := by first | (rw [hy333]; with_reducible exact H) | (have H2_ := (Option.bind_some _ _).symm.trans H; rw [hy333]; with_reducible exact H2_) | (have H2_ := (Option.bind_some _ _).symm.trans H; with_reducible exact H2_) | with_reducible exact H | (rw [hy333]; exact H) | exact H
       have Ny333 := am hy333
       clear hy333
       have H' := am H
       clear H
       have p331 : 0 ≤ (x14_3 : Int) := zD
       have q331 : x14_3 < (t321.length : Int) := zD
       obtain ⟨ad331, e331, hx331_0⟩ := Kd.at_int (Kd.R_reads' HO_10.out).2.2 x14_3 p331 q331
       obtain rfl : ad327 = ad331 := (by injection e331)
       replace p331 := eq_true p331
       replace q331 := eq_true q331
       have p332 : 0 ≤ (x14_3 : Int) := zD
       have q332 : x14_3 < (x7_1.length : Int) := zD
       obtain ⟨ad332, e332, hx332_0, hx332_1⟩ := at_T42 (Kd.R_reads' HO_7.out).2.2 x14_3 p332 q332
       cases e332
       replace p332 := eq_true p332
       replace q332 := eq_true q332
       go_wp2_with (first | ((with_reducible refine gate_builtin (b := .append) (xs := #[.tmp 85, .tmp 90]) rfl ?_); at_builtin; refine Kd.R_append k42 (w0 := w) w.heap.size rfl (.tmp 85) (.tmp 90) 61 42 (.agg #[(.int .i64 0), (.int .i64 0)]) 16 rfl Tryd.underlying61 info42 rfl (by decide) (by omega) u13 x13_3 (⟨(rd_T42 x7_1 x14_3).f0, (rd_T42 x7_1 x14_3).f1⟩ : S42) [.int .i64 ((rd_T42 x7_1 x14_3).f0), .int .i64 ((rd_T42 x7_1 x14_3).f1)] (fun k_ => some k_ ≠ (.slice (some ad332) x7_1.length co17 : Value).ownBlock) (fun _ => False) rfl rfl ?aP (fun _ hk => hk.elim) ?aF ?aO ?aB ?aS ?aL ?_; (case aP => exact k42_mkM _ _ _ (⟨(rd_T42 x7_1 x14_3).f0, (rd_T42 x7_1 x14_3).f1⟩ : S42)); (case aB => exact zB); (case aF => exact (fun k_ hk => Kd.fresh' (Kd.R_lt (zR HO_7)) k_ hk)); (case aO => exact (zR HO_13)); (case aS => exact (Bb5 zB)); (case aL => have := LMc32.out; omega); intro v334 w33 ho hb hg hat; rw [← Ny333.out] at ho; have n0_ := am (Kd.R_after (ok := (fun _ => True)) (by (with_reducible repeat (first | apply Kd.R_alloc | apply Kd.R_drewN | apply Kd.R_drew)); exact Kd.R_mono HO_7.out (fun _ hk => ⟨trivial, hk⟩)) hg hat); have n1_ := am (Kd.R_over' (zR HO_10) (Kd.R_typed (zR HO_13)) (by decide) hg); have n2_ := am (Kd.S_after (ok := (fun k_ => some k_ ≠ (.slice (some ad332) x7_1.length co17 : Value).ownBlock)) (by (with_reducible repeat (first | apply Kd.S_alloc | apply Kd.S_drewN | apply Kd.S_drew)); exact HO_11.out) hg hat); have n3_ := am (hb); have n4_ := am (ho); clear HO_7; clear HO_10; clear HO_11; clear HB; clear HO_13; have HO_7 := n0_; have HO_10 := n1_; have HO_11 := n2_; have HB := n3_; have HO335 := n4_; clear n0_ n1_ n2_ n3_ n4_; clear ho hb hg hat))
       go_roundg k3
       case measure => have := HK1.out; have := HK2.out; have := HK3.out; omega
       case rel => exact ⟨(y333), (wrap64 (x14_3 + 1)), zS, H', ⟨by have := HK1.out; have := HK2.out; have := HK3.out; omega⟩, ⟨by (with_reducible repeat (first | apply Kd.R_alloc | apply Kd.R_drewN | apply Kd.R_drew)); exact Kd.R_mono HO_7.out (fun _ hk => hk.2)⟩, ⟨zR HO_10⟩, ⟨by (with_reducible repeat (first | apply Kd.S_alloc | apply Kd.S_drewN | apply Kd.S_drew)); exact HO_11.out⟩, ⟨zR HO335⟩, ⟨zB⟩⟩

end Go.Proofs.YtcgnnfaemjjljaaDoor.Q
