/- Written by a program of this session (wip/tools/pp.py) out of the translation, with the kit's printer. -/
import Derived.Test.YtjgnlakgojookaaQ0
import Derived.Test.YtjgnlakgojookaaQ14
namespace Go.Proofs.Ytjgnlakgojookaa.Q
open Go.RowKit Go.Proofs.YtjgnlakgojookaaW.PrintWords Go.Proofs.YtjgnlakgojookaaW.PrintLast Go.Proofs.YtjgnlakgojookaaW.PrintMore
attribute [local go_sem] max2_int min2_int max_two min_two max_three min_three max_four min_four
set_option linter.unusedVariables false
set_option linter.unusedSimpArgs false

/-! ### impl_movedParts: function 78 -/
mutual
def impl_movedParts.l0 : Nat → List (S71) → List (List (S71)) → List (List (S71)) → Int → Int → Option ((List (List (S71))))
 | 0, _, _, _, _, _ => none
 | k + 1, x1, x5, x12, x13, x14 => if x14 < x13 then (if 0 ≤ x14 then (if x14 < (x12.length : Int) then (impl_movedParts.l1 k x1 x5 x14 (([] : List (S71))) x12 x13 x14 (rd_L4 x12 x14) ((rd_L4 x12 x14).length : Int) 0) else (none)) else (none)) else (some x5)
def impl_movedParts.l1 : Nat → List (S71) → List (List (S71)) → Int → List (S71) → List (List (S71)) → Int → Int → List (S71) → Int → Int → Option ((List (List (S71))))
 | 0, _, _, _, _, _, _, _, _, _, _ => none
 | k + 1, x1, x5, x6, x8, x12, x13, x14, x20, x21, x22 => if x22 < x21 then (if 0 ≤ x22 then (if x22 < (x20.length : Int) then (if 0 ≤ x6 then (if x6 < (x1.length : Int) then ((impl_plusCube.f ((rd_T71 x20 x22).f0) ((rd_T71 x20 x22).f1) ((rd_T71 x20 x22).f2) ((rd_T71 x1 x6).f0) ((rd_T71 x1 x6).f1) ((rd_T71 x1 x6).f2)).bind fun bt418 => (if x8.length < 5864062014805 then (impl_movedParts.l1 k x1 x5 x6 (x8 ++ [(⟨bt418.1, bt418.2.1, bt418.2.2⟩ : S71)]) x12 x13 x14 x20 x21 (wrap64 (x22 + 1))) else (none))) else (none)) else (none)) else (none)) else (none)) else (if x5.length < 5864062014805 then (impl_movedParts.l0 k x1 (x5 ++ [x8]) x12 x13 (wrap64 (x14 + 1))) else (none))
end
def impl_movedParts.f (k : Nat) (l0 : List (List (S71))) (l1 : List (S71)) : Option ((List (List (S71)))) := impl_movedParts.l0 k l1 (([] : List (List (S71)))) l0 (l0.length : Int) 0
theorem impl_movedParts.mono_l : ∀ k, (∀ y0 y1 y2 y3 y4, LeO (impl_movedParts.l0 k y0 y1 y2 y3 y4) (impl_movedParts.l0 (k + 1) y0 y1 y2 y3 y4)) ∧ (∀ y0 y1 y2 y3 y4 y5 y6 y7 y8 y9, LeO (impl_movedParts.l1 k y0 y1 y2 y3 y4 y5 y6 y7 y8 y9) (impl_movedParts.l1 (k + 1) y0 y1 y2 y3 y4 y5 y6 y7 y8 y9))
 | 0 => ⟨fun _ _ _ _ _ r h => by simp [impl_movedParts.l0] at h, fun _ _ _ _ _ _ _ _ _ _ r h => by simp [impl_movedParts.l1] at h⟩
 | k + 1 => by
  obtain ⟨ih0, ih1⟩ := impl_movedParts.mono_l k
  refine ⟨?_, ?_⟩
  ·intro y0 y1 y2 y3 y4
   unfold impl_movedParts.l0
   repeat' first
   | (with_reducible exact ih0 _ _ _ _ _)
   | (with_reducible exact ih1 _ _ _ _ _ _ _ _ _ _)
   | (with_reducible exact LeO.refl _)
   | (with_reducible exact LeO.none _)
   | (with_reducible refine LeO.ite ?_ ?_)
   | (with_reducible refine LeO.bind ?_ (fun _ => ?_))
   | exact ih0 _ _ _ _ _
   | exact ih1 _ _ _ _ _ _ _ _ _ _
   | exact LeO.none _
   | refine LeO.ite ?_ ?_
   | refine LeO.bind ?_ (fun _ => ?_)
  ·intro y0 y1 y2 y3 y4 y5 y6 y7 y8 y9
   unfold impl_movedParts.l1
   repeat' first
   | (with_reducible exact ih0 _ _ _ _ _)
   | (with_reducible exact ih1 _ _ _ _ _ _ _ _ _ _)
   | (with_reducible exact LeO.refl _)
   | (with_reducible exact LeO.none _)
   | (with_reducible refine LeO.ite ?_ ?_)
   | (with_reducible refine LeO.bind ?_ (fun _ => ?_))
   | exact ih0 _ _ _ _ _
   | exact ih1 _ _ _ _ _ _ _ _ _ _
   | exact LeO.none _
   | refine LeO.ite ?_ ?_
   | refine LeO.bind ?_ (fun _ => ?_)
theorem impl_movedParts.mono : ∀ a0 a1 k, LeO (impl_movedParts.f k a0 a1) (impl_movedParts.f (k + 1) a0 a1) := by
 intro a0 a1 k
 obtain ⟨ih0, ih1⟩ := impl_movedParts.mono_l k
 unfold impl_movedParts.f
 repeat' first
   | (with_reducible exact ih0 _ _ _ _ _)
   | (with_reducible exact ih1 _ _ _ _ _ _ _ _ _ _)
   | (with_reducible exact LeO.refl _)
   | (with_reducible exact LeO.none _)
   | (with_reducible refine LeO.ite ?_ ?_)
   | (with_reducible refine LeO.bind ?_ (fun _ => ?_))
   | exact ih0 _ _ _ _ _
   | exact ih1 _ _ _ _ _ _ _ _ _ _
   | exact LeO.none _
   | refine LeO.ite ?_ ?_
   | refine LeO.bind ?_ (fun _ => ?_)
def impl_movedParts.T9 : Bool × List (List Nat × List Nat) := (true, [([], []), ([], []), ([], []), ([], []), ([2, 3], [2, 3]), ([4], [4]), ([1, 5], [1, 5]), ([6], [6]), ([0, 7, 6], [0, 7]), ([8, 8, 0, 1, 2, 3, 4, 5, 6, 7, 8], [0, 8])])
def impl_movedParts.B9 : List Nat := [0, 0, 0, 0, 12, 28, 62, 126, 255, 511]
theorem impl_movedParts.tab9 : rtab .any (opsOf Try.f78 9) = impl_movedParts.T9 := by kernel_rfl
theorem impl_movedParts.bits9 : waitsOk impl_movedParts.T9.2 impl_movedParts.B9 = true := by kernel_rfl
set_option maxHeartbeats 8000000 in
set_option maxRecDepth 100000 in
theorem impl_movedParts.calls (k : Nat) (A0 : Option Addr) (c0 : Nat) (l0 : List (List (S71))) (A1 : Option Addr) (c1 : Nat) (l1 : List (S71)) (r : List (List (S71))) (w : World) (hr0 : Kd.C (Kd.slice 71 k71) w A0 l0.length l0) (hc0 : l0.length ≤ c0) (hr1 : Kd.C k71 w A1 l1.length l1) (hc1 : l1.length ≤ c1) (h : impl_movedParts.f k l0 l1 = some r) :
  Calls Try.prog 78 #[.slice A0 l0.length c0, .slice A1 l1.length c1] w fun e w' => ∃ v0_ : Value, e = .returned (v0_) ∧ Kd.S (Kd.slice 71 k71) 36 w' w.heap.size (fun _ => True) v0_ r ∧ Below w.heap.size w w' := by
 have hu71 := Try.underlying71
 have HR0 := am hr0
 have HC0 := am hc0
 clear hr0 hc0
 have HR1 := am hr1
 have HC1 := am hc1
 clear hr1 hc1
 have HB := am (Below.refl w.heap.size w)
 have H : (impl_movedParts.l0 k l1 (([] : List (List (S71)))) l0 (l0.length : Int) 0) = some r := h
 clear h
 obtain ⟨y408, hy408⟩ : ∃ y_ : List (List (S71)), y_ = (([] : List (List (S71)))) := ⟨_, rfl⟩
 replace H : (impl_movedParts.l0 k l1 y408 l0 (l0.length : Int) 0) = some r := by first | (rw [hy408]; with_reducible exact H) | (have H2_ := (Option.bind_some _ _).symm.trans H; rw [hy408]; with_reducible exact H2_) | (have H2_ := (Option.bind_some _ _).symm.trans H; with_reducible exact H2_) | with_reducible exact H | (rw [hy408]; exact H) | exact H
 have Ny408 := am hy408
 clear hy408
 have H' := am H
 clear H
 go_enter Try.func78, Try.ntmps78
 go_wp2_with (first | ((with_reducible refine gate_dst (N := 11) rfl ?_); refine Kd.S_lit (Kd.slice 71 k71) _ 36 ?hg (N := 11) ?hd (xs := ([] : List (List (S71)))) (inner := []) (ok := fun _ => True) (okp := fun _ => True) ?hr ?hp (fun _ hk => hk) trivial (Below.refl _ _) (Nat.le_refl _) (by simp) ?_; (case hd => rfl); (case hg => rfl); (case hr => first | (go_simp; done) | (go_simp; rfl)); (case hp => exact (Reps.none _ _)); intro v409 w3 ho4 hb hg_ hnew_; clear hg_ hnew_; (first | rw [← Ny408.out] at ho4 | (simp only [Int.reduceToNat] at ho4; rw [← Ny408.out] at ho4)); have n0_ := am (Kd.S_lower ho4 (Bb5 zB)); have n1_ := am (Bb6 zB hb); clear HB; have HO410 := n0_; have HB := n1_; clear n0_ n1_; clear hb ho4))
 go_loopg [5, 14] k (fun kq v5 v14 w' => ∃ (x5_1 : List (List (S71))) (x14_1 : Int), v14 = .int .i64 x14_1 ∧ Aside0 (impl_movedParts.l0 kq l1 x5_1 l0 (l0.length : Int) x14_1 = some r) ∧ Aside0 (kq ≤ k) ∧ Aside0 (Kd.S (Kd.slice 71 k71) 36 w' w.heap.size (fun _ => True) v5 x5_1) ∧ Aside0 (Below w.heap.size w w'))
 case atStart => exact ⟨(y408), (0), zS, H', ⟨Nat.le_refl _⟩, ⟨by (with_reducible repeat (first | apply Kd.S_alloc | apply Kd.S_drewN | apply Kd.S_drew)); exact HO410.out⟩, ⟨zB⟩⟩
 case round =>
  clear H'
  try clear c1
  try clear p2
  obtain ⟨x5_1, x14_1, rfl, HA, HK1, HO_5, HB⟩ := hrel
  cases gk with
  | zero => exact absurd HA.out (by simp [impl_movedParts.l0])
  | succ k1 =>
   have H := HA.out
   clear HA
   simp only [impl_movedParts.l0] at H
   by_cases c5 : x14_1 < (l0.length : Int)
   rotate_left
   ·rw [if_neg c5] at H
    have c5b0 : decide (x14_1 < (l0.length : Int)) = false := decide_eq_false c5
    clear c5
    obtain rfl := oi H
    go_wp2
    go_ret
    exact ⟨_, zE, by (with_reducible repeat (first | apply Kd.S_alloc | apply Kd.S_drewN | apply Kd.S_drew)); exact HO_5.out, zB⟩
   rw [if_pos c5] at H
   have c5b0 : decide (x14_1 < (l0.length : Int)) = true := decide_eq_true c5
   clear c5
   by_cases c6 : 0 ≤ x14_1
   rotate_left
   ·rw [if_neg c6] at H
    exact absurd H (by simp)
   rw [if_pos c6] at H
   have c6b0 : decide (0 ≤ x14_1) = true := decide_eq_true c6
   clear c6
   by_cases c7 : x14_1 < (l0.length : Int)
   rotate_left
   ·rw [if_neg c7] at H
    exact absurd H (by simp)
   rw [if_pos c7] at H
   have c7b0 : decide (x14_1 < (l0.length : Int)) = true := decide_eq_true c7
   clear c7
   obtain ⟨y412, hy412⟩ : ∃ y_ : List (S71), y_ = (([] : List (S71))) := ⟨_, rfl⟩
   replace H : (impl_movedParts.l1 k1 l1 x5_1 x14_1 y412 l0 (l0.length : Int) x14_1 (rd_L4 l0 x14_1) ((rd_L4 l0 x14_1).length : Int) 0) = some r := by first | (rw [hy412]; with_reducible exact H) | (have H2_ := (Option.bind_some _ _).symm.trans H; rw [hy412]; with_reducible exact H2_) | (have H2_ := (Option.bind_some _ _).symm.trans H; with_reducible exact H2_) | with_reducible exact H | (rw [hy412]; exact H) | exact H
   have Ny412 := am hy412
   clear hy412
   have H' := am H
   clear H
   have p411 : 0 ≤ (x14_1 : Int) := zD
   have q411 : x14_1 < (l0.length : Int) := zD
   obtain ⟨ad411, A411_0, c411_0, e411, hx411_0, hl411_0, hi411_0⟩ := at_L4 HR0.out x14_1 p411 q411
   cases e411
   replace hx411_0 := pc HB.out hx411_0
   have HR411_0 := am hi411_0
   have HC411_0 := am hl411_0
   clear hi411_0 hl411_0
   replace p411 := eq_true p411
   replace q411 := eq_true q411
   go_wp2_with (first | ((with_reducible refine gate_dst (N := 19) rfl ?_); refine Kd.R_lit k71 _ 71 ?hg (N := 19) ?hd (xs := ([] : List (S71))) (inner := []) (ok := fun _ => True) (okp := fun _ => True) ?hr ?hp (fun _ hk => hk) trivial (Below.refl _ _) (Nat.le_refl _) (by simp) ?_; (case hd => rfl); (case hg => rfl); (case hr => first | (go_simp; done) | (go_simp; rfl)); (case hp => exact (Reps.none _ _)); intro v413 w8 ho9 hb hg_ hnew_; clear hg_ hnew_; (first | rw [← Ny412.out] at ho9 | (simp only [Int.reduceToNat] at ho9; rw [← Ny412.out] at ho9)); have n0_ := am (Kd.S_elder' (by (with_reducible repeat (first | apply Kd.S_alloc | apply Kd.S_drewN | apply Kd.S_drew)); exact HO_5.out) (Kd.R_base ho9) hb); have n1_ := am (Kd.R_lower ho9 (Bb5 zB)); have n2_ := am (Bb6 zB hb); clear HO_5; clear HB; have HO_5 := n0_; have HO414 := n1_; have HB := n2_; clear n0_ n1_ n2_; clear hb ho9))
   go_loopg [8, 22] k1 (fun kq v8 v22 w' => ∃ (x8_2 : List (S71)) (x22_2 : Int), v22 = .int .i64 x22_2 ∧ Aside0 (impl_movedParts.l1 kq l1 x5_1 x14_1 x8_2 l0 (l0.length : Int) x14_1 (rd_L4 l0 x14_1) ((rd_L4 l0 x14_1).length : Int) x22_2 = some r) ∧ Aside0 (kq ≤ k1) ∧ Aside0 (Kd.S (Kd.slice 71 k71) 36 w' w.heap.size (fun k_ => some k_ ≠ (v8 : Value).ownBlock) u5 x5_1) ∧ Aside0 (Kd.R k71 71 w' w.heap.size (fun _ => True) v8 x8_2) ∧ Aside0 (Below w.heap.size w w'))
   case atStart => exact ⟨(y412), (0), zS, H', ⟨Nat.le_refl _⟩, ⟨by (with_reducible repeat (first | apply Kd.S_alloc | apply Kd.S_drewN | apply Kd.S_drew)); exact Kd.S_mono HO_5.out (fun _ hk => hk.2)⟩, ⟨zR HO414⟩, ⟨zB⟩⟩
   case round =>
    clear H'
    try clear c1
    try clear p2
    try clear c4
    try clear p4
    try clear q4
    try clear hx4
    try clear c5
    try clear c5b0
    try clear c6
    try clear c6b0
    try clear c7
    try clear c7b0
    try clear hx411_0
    try clear p2
    try clear p411
    try clear q411
    obtain ⟨x8_2, x22_2, rfl, HA, HK2, HO_5, HO_8, HB⟩ := hrel
    cases gk with
    | zero => exact absurd HA.out (by simp [impl_movedParts.l1])
    | succ k2 =>
     have H := HA.out
     clear HA
     simp only [impl_movedParts.l1] at H
     by_cases c10 : x22_2 < ((rd_L4 l0 x14_1).length : Int)
     rotate_left
     ·rw [if_neg c10] at H
      have c10b0 : decide (x22_2 < ((rd_L4 l0 x14_1).length : Int)) = false := decide_eq_false c10
      clear c10
      by_cases c23 : x5_1.length < 5864062014805
      rotate_left
      ·rw [if_neg c23] at H
       exact absurd H (by simp)
      rw [if_pos c23] at H
      have LMc23 := am c23
      clear c23
      obtain ⟨y424, hy424⟩ : ∃ y_ : List (List (S71)), y_ = (x5_1 ++ [x8_2]) := ⟨_, rfl⟩
      replace H : (impl_movedParts.l0 k2 l1 y424 l0 (l0.length : Int) (wrap64 (x14_1 + 1))) = some r := by first | (rw [hy424]; with_reducible exact H) | (have H2_ := (Option.bind_some _ _).symm.trans H; rw [hy424]; with_reducible exact H2_) | (have H2_ := (Option.bind_some _ _).symm.trans H; with_reducible exact H2_) | with_reducible exact H | (rw [hy424]; exact H) | exact H
      have Ny424 := am hy424
      clear hy424
      have H' := am H
      clear H
      obtain ⟨Ao25, co25, eo25⟩ := Kd.R_slice HO_8.out
      subst eo25
      go_wp2_with (first | ((with_reducible refine gate_builtin (b := .append) (xs := #[.tmp 36, .tmp 38]) rfl ?_); at_builtin; refine Kd.S_append (Kd.slice 71 k71) (w0 := w) w.heap.size rfl (.tmp 36) (.tmp 38) 27 36 (.slice none 0 0) 24 rfl Try.underlying27 info36 rfl (by decide) (by omega) u5 x5_1 x8_2 [.slice Ao25 x8_2.length co25] (fun _ => True) (fun k_ => some k_ = (.slice Ao25 x8_2.length co25 : Value).ownBlock) rfl rfl ?aP (fun k_ hk_ => ((Kd.R_mono (ok' := fun k_ => ((fun _ => True)) k_ ∧ some k_ ≠ (u5 : Value).ownBlock) (Kd.R_apart' (HO_8.out) (Kd.S_typed HO_5.out) (by decide)) (fun k_ hk => ⟨trivial, hk.2⟩))).1 k_ hk_.symm) ?aF ?aO ?aB ?aS ?aL ?_; (case aP => exact Kd.M_row (Kd.R_mono (Kd.R_tight rfl (Kd.R_mono (ok' := fun k_ => ((fun _ => True)) k_ ∧ some k_ ≠ (u5 : Value).ownBlock) (Kd.R_apart' (HO_8.out) (Kd.S_typed HO_5.out) (by decide)) (fun k_ hk => ⟨trivial, hk.2⟩))) (fun _ h_ => h_))); (case aB => exact zB); (case aF => exact (fun _ _ => trivial)); (case aO => exact (by (with_reducible repeat (first | apply Kd.S_alloc | apply Kd.S_drewN | apply Kd.S_drew)); exact Kd.S_mono HO_5.out (fun k_ hk => ⟨trivial, fun e_ => hk e_⟩))); (case aS => exact (Bb5 zB)); (case aL => have := LMc23.out; omega); intro v425 w24 ho hb hg hat; rw [← Ny424.out] at ho; have n0_ := am (hb); have n1_ := am (ho); clear HB; clear HO_5; clear HO_8; have HB := n0_; have HO426 := n1_; clear n0_ n1_; clear ho hb hg hat))
      go_roundg k2
      case measure => have := HK1.out; have := HK2.out; omega
      case rel => exact ⟨(y424), (wrap64 (x14_1 + 1)), zS, H', ⟨by have := HK1.out; have := HK2.out; omega⟩, ⟨by (with_reducible repeat (first | apply Kd.S_alloc | apply Kd.S_drewN | apply Kd.S_drew)); exact HO426.out⟩, ⟨zB⟩⟩
     rw [if_pos c10] at H
     have c10b0 : decide (x22_2 < ((rd_L4 l0 x14_1).length : Int)) = true := decide_eq_true c10
     clear c10
     by_cases c11 : 0 ≤ x22_2
     rotate_left
     ·rw [if_neg c11] at H
      exact absurd H (by simp)
     rw [if_pos c11] at H
     have c11b0 : decide (0 ≤ x22_2) = true := decide_eq_true c11
     clear c11
     by_cases c12 : x22_2 < ((rd_L4 l0 x14_1).length : Int)
     rotate_left
     ·rw [if_neg c12] at H
      exact absurd H (by simp)
     rw [if_pos c12] at H
     have c12b0 : decide (x22_2 < ((rd_L4 l0 x14_1).length : Int)) = true := decide_eq_true c12
     clear c12
     by_cases c13 : 0 ≤ x14_1
     rotate_left
     ·rw [if_neg c13] at H
      exact absurd H (by simp)
     rw [if_pos c13] at H
     have c13b0 : decide (0 ≤ x14_1) = true := decide_eq_true c13
     clear c13
     by_cases c14 : x14_1 < (l1.length : Int)
     rotate_left
     ·rw [if_neg c14] at H
      exact absurd H (by simp)
     rw [if_pos c14] at H
     have c14b0 : decide (x14_1 < (l1.length : Int)) = true := decide_eq_true c14
     clear c14
     replace H := ob H
     obtain ⟨⟨t418, t419, t420⟩, A150, H⟩ := H
     (try dsimp only at H)
     have A15 := am A150
     clear A150
     by_cases c16 : x8_2.length < 5864062014805
     rotate_left
     ·rw [if_neg c16] at H
      exact absurd H (by simp)
     rw [if_pos c16] at H
     have LMc16 := am c16
     clear c16
     obtain ⟨y421, hy421⟩ : ∃ y_ : List (S71), y_ = (x8_2 ++ [(⟨t418, t419, t420⟩ : S71)]) := ⟨_, rfl⟩
     replace H : (impl_movedParts.l1 k2 l1 x5_1 x14_1 y421 l0 (l0.length : Int) x14_1 (rd_L4 l0 x14_1) ((rd_L4 l0 x14_1).length : Int) (wrap64 (x22_2 + 1))) = some r := by first | (rw [hy421]; with_reducible exact H) | (have H2_ := (Option.bind_some _ _).symm.trans H; rw [hy421]; with_reducible exact H2_) | (have H2_ := (Option.bind_some _ _).symm.trans H; with_reducible exact H2_) | with_reducible exact H | (rw [hy421]; exact H) | exact H
     have Ny421 := am hy421
     clear hy421
     have H' := am H
     clear H
     have p415 : 0 ≤ (x22_2 : Int) := zD
     have q415 : x22_2 < ((rd_L4 l0 x14_1).length : Int) := zD
     obtain ⟨ad415, e415, hx415_0, hx415_1, hx415_2⟩ := at_T71 HR411_0.out x22_2 p415 q415
     cases e415
     replace hx415_0 := pc HB.out hx415_0
     replace hx415_1 := pc HB.out hx415_1
     replace hx415_2 := pc HB.out hx415_2
     replace p415 := eq_true p415
     replace q415 := eq_true q415
     try go_wp2_with (first | ((with_reducible refine gate_dst (N := 10) rfl ?_); refine box_event ?hg (N := 10) ?hd (cs := #[.int .i64 0, .int .i64 0, .int .i64 0]) (t := 71) ?hr ?_; (case hd => rfl); (case hg => rfl); (case hr => first | (go_simp; done) | (go_simp; rfl)); intro gb416 hg w17 hbox hb; have n0_ := am (Kd.S_below (Kd.S_elderB (by (with_reducible repeat (first | apply Kd.S_alloc | apply Kd.S_drewN | apply Kd.S_drew)); exact HO_5.out) gb416 (Nat.le_of_eq hg.symm)) hb); have n1_ := am (Kd.R_below (Kd.R_elderB (zR HO_8) gb416 (Nat.le_of_eq hg.symm)) hb); have n2_ := am (Bb6 zB hb); have n3_ := am (hbox); have n4_ := am ((by rw [hg]; exact (Bb5 zB) : w.heap.size ≤ gb416)); have n5_ := n4_; clear HO_5; clear HO_8; clear HB; have HO_5 := n0_; have HO_8 := n1_; have HB := n2_; have BK416 := n3_; have GW416 := n4_; have GE416 := n5_; clear n0_ n1_ n2_ n3_ n4_ n5_; clear hb hbox hg; have hcz18_0 : w17.cell? ⟨gb416, 0, none⟩ = some (.int .i64 0) := (kc BK416.out 0).trans rfl; have hcz18_1 : w17.cell? ⟨gb416, 1, none⟩ = some (.int .i64 0) := (kc BK416.out 1).trans rfl; have hcz18_2 : w17.cell? ⟨gb416, 2, none⟩ = some (.int .i64 0) := (kc BK416.out 2).trans rfl; have hfz18_0 := kf BK416.out 0; have hfz18_1 := kf BK416.out 1; have hfz18_2 := kf BK416.out 2))
     have n0_ : Aside0 (Kd.S (Kd.slice 71 k71) 36 (((w17.setCell ⟨gb416, 0, none⟩ (.int .i64 ((rd_T71 (rd_L4 l0 x14_1) x22_2).f0))).setCell ⟨gb416, 1, none⟩ (.int .i64 ((rd_T71 (rd_L4 l0 x14_1) x22_2).f1))).setCell ⟨gb416, 2, none⟩ (.int .i64 ((rd_T71 (rd_L4 l0 x14_1) x22_2).f2))) w.heap.size (fun k_ => some k_ ≠ (u8 : Value).ownBlock ∧ k_ ≠ gb416) u5 x5_1) := ⟨by (with_reducible repeat (first | apply Kd.S_alloc | apply Kd.S_drewN | apply Kd.S_drew)); exact Kd.S_mono (Kd.S_far (p := ⟨gb416, 2, none⟩) (Kd.S_far (p := ⟨gb416, 1, none⟩) (Kd.S_far (p := ⟨gb416, 0, none⟩) (Kd.S_mono HO_5.out (fun k_ hk => (⟨hk, hk.2⟩ : _ ∧ k_ ≠ gb416))) (fun _ hk => hk.2) (.int .i64 ((rd_T71 (rd_L4 l0 x14_1) x22_2).f0))) (fun _ hk => hk.2) (.int .i64 ((rd_T71 (rd_L4 l0 x14_1) x22_2).f1))) (fun _ hk => hk.2) (.int .i64 ((rd_T71 (rd_L4 l0 x14_1) x22_2).f2))) (fun _ hk => ⟨hk.1.1, hk.1.2⟩)⟩
     have n1_ : Aside0 (Kd.R k71 71 (((w17.setCell ⟨gb416, 0, none⟩ (.int .i64 ((rd_T71 (rd_L4 l0 x14_1) x22_2).f0))).setCell ⟨gb416, 1, none⟩ (.int .i64 ((rd_T71 (rd_L4 l0 x14_1) x22_2).f1))).setCell ⟨gb416, 2, none⟩ (.int .i64 ((rd_T71 (rd_L4 l0 x14_1) x22_2).f2))) w.heap.size (fun k_ => k_ ≠ gb416) u8 x8_2) := ⟨by (with_reducible repeat (first | apply Kd.R_alloc | apply Kd.R_drewN | apply Kd.R_drew)); exact Kd.R_mono (Kd.R_far (p := ⟨gb416, 2, none⟩) (Kd.R_far (p := ⟨gb416, 1, none⟩) (Kd.R_far (p := ⟨gb416, 0, none⟩) (Kd.R_mono HO_8.out (fun k_ hk => (⟨hk, hk.2⟩ : _ ∧ k_ ≠ gb416))) (fun _ hk => hk.2) (.int .i64 ((rd_T71 (rd_L4 l0 x14_1) x22_2).f0))) (fun _ hk => hk.2) (.int .i64 ((rd_T71 (rd_L4 l0 x14_1) x22_2).f1))) (fun _ hk => hk.2) (.int .i64 ((rd_T71 (rd_L4 l0 x14_1) x22_2).f2))) (fun _ hk => hk.1.2)⟩
     have n2_ : Aside0 ((((w17.setCell ⟨gb416, 0, none⟩ (.int .i64 ((rd_T71 (rd_L4 l0 x14_1) x22_2).f0))).setCell ⟨gb416, 1, none⟩ (.int .i64 ((rd_T71 (rd_L4 l0 x14_1) x22_2).f1))).setCell ⟨gb416, 2, none⟩ (.int .i64 ((rd_T71 (rd_L4 l0 x14_1) x22_2).f2))).heap[gb416]? = some (.cells #[.int .i64 ((rd_T71 (rd_L4 l0 x14_1) x22_2).f0), .int .i64 ((rd_T71 (rd_L4 l0 x14_1) x22_2).f1), .int .i64 ((rd_T71 (rd_L4 l0 x14_1) x22_2).f2)] 71 (0, 0))) := ⟨by (with_reducible repeat (first | refine Bk2 ?_ _ | refine Bk3 ?_ | refine Bk1 ?_ _)); refine blk_put (cs := #[.int .i64 ((rd_T71 (rd_L4 l0 x14_1) x22_2).f0), .int .i64 ((rd_T71 (rd_L4 l0 x14_1) x22_2).f1), .int .i64 0]) ?_ 2 _ rfl; (with_reducible repeat (first | refine Bk2 ?_ _ | refine Bk3 ?_ | refine Bk1 ?_ _)); refine blk_put (cs := #[.int .i64 ((rd_T71 (rd_L4 l0 x14_1) x22_2).f0), .int .i64 0, .int .i64 0]) ?_ 1 _ rfl; (with_reducible repeat (first | refine Bk2 ?_ _ | refine Bk3 ?_ | refine Bk1 ?_ _)); refine blk_put (cs := #[.int .i64 0, .int .i64 0, .int .i64 0]) ?_ 0 _ rfl; (with_reducible repeat (first | refine Bk2 ?_ _ | refine Bk3 ?_ | refine Bk1 ?_ _)); exact BK416.out⟩
     have n3_ : Aside0 (Below w.heap.size w (((w17.setCell ⟨gb416, 0, none⟩ (.int .i64 ((rd_T71 (rd_L4 l0 x14_1) x22_2).f0))).setCell ⟨gb416, 1, none⟩ (.int .i64 ((rd_T71 (rd_L4 l0 x14_1) x22_2).f1))).setCell ⟨gb416, 2, none⟩ (.int .i64 ((rd_T71 (rd_L4 l0 x14_1) x22_2).f2)))) := ⟨by repeat (first | (with_reducible first | exact HB.out | apply Bb1 | apply Bb2 | apply Bb3 | refine Bb4 ?_ GE416.out) | exact HB.out)⟩
     (try clear HO_5)
     (try clear HO_8)
     (try clear BK416)
     (try clear HB)
     generalize (((w17.setCell ⟨gb416, 0, none⟩ (.int .i64 ((rd_T71 (rd_L4 l0 x14_1) x22_2).f0))).setCell ⟨gb416, 1, none⟩ (.int .i64 ((rd_T71 (rd_L4 l0 x14_1) x22_2).f1))).setCell ⟨gb416, 2, none⟩ (.int .i64 ((rd_T71 (rd_L4 l0 x14_1) x22_2).f2))) = w19 at n0_ n1_ n2_ n3_ ⊢
     have HO_5 := n0_
     have HO_8 := n1_
     have BK416 := n2_
     have HB := n3_
     clear n0_ n1_ n2_ n3_
     have n0_ := am (Kd.S_drew HO_5.out)
     have n1_ := am (Kd.R_drew HO_8.out)
     have n2_ := am (Bk3 BK416.out)
     have n3_ := am (Bb3 HB.out)
     clear HO_5
     clear HO_8
     clear BK416
     clear HB
     have HO_5 := n0_
     have HO_8 := n1_
     have BK416 := n2_
     have HB := n3_
     clear n0_ n1_ n2_ n3_
     have p417 : 0 ≤ (x14_1 : Int) := zD
     have q417 : x14_1 < (l1.length : Int) := zD
     obtain ⟨ad417, e417, hx417_0, hx417_1, hx417_2⟩ := at_T71 HR1.out x14_1 p417 q417
     have hw417_2 := hx417_2
     have hw417_1 := hx417_1
     have hw417_0 := hx417_0
     cases e417
     replace hx417_0 := pc HB.out hx417_0
     replace hx417_1 := pc HB.out hx417_1
     replace hx417_2 := pc HB.out hx417_2
     replace p417 := eq_true p417
     replace q417 := eq_true q417
     refine start_ (n := 10) (S := fun w' => w'.cell? ⟨gb416, 0, none⟩ = some (.int .i64 ((rd_T71 (rd_L4 l0 x14_1) x22_2).f0)) ∧ w'.cell? ⟨gb416, 1, none⟩ = some (.int .i64 ((rd_T71 (rd_L4 l0 x14_1) x22_2).f1)) ∧ w'.cell? ⟨gb416, 2, none⟩ = some (.int .i64 ((rd_T71 (rd_L4 l0 x14_1) x22_2).f2)) ∧ w'.cell? (ad417.add ((x14_1).toNat * 3)) = some (.int .i64 ((rd_T71 l1 x14_1).f0)) ∧ w'.cell? ⟨(ad417.add ((x14_1).toNat * 3)).block, (ad417.add ((x14_1).toNat * 3)).off + 1, none⟩ = some (.int .i64 ((rd_T71 l1 x14_1).f1)) ∧ w'.cell? ⟨(ad417.add ((x14_1).toNat * 3)).block, (ad417.add ((x14_1).toNat * 3)).off + 2, none⟩ = some (.int .i64 ((rd_T71 l1 x14_1).f2))) (ds := []) #[z',z',z',z',z',z',z',z',z',z'] (by kernel_rfl) rfl rfl ⟨(kc BK416.out 0).trans rfl, (kc BK416.out 1).trans rfl, (kc BK416.out 2).trans rfl, (pc HB.out hw417_0), (pc HB.out hw417_1), (pc HB.out hw417_2)⟩ (fun hHeld => ?_); refine with_tabW impl_movedParts.tab9 impl_movedParts.bits9 (fun HT_ HW_ => ?_)
     generalize w19.drew = w20 at HO_5 HO_8 BK416 HB hx417_0 hx417_1 hx417_2 hHeld ⊢
     refine pure_ (i := 0) (N := some 26) (v := ?_) (a' := ?_) #[o',z',z',z',z',z',z',z',z',z'] rfl rfl zA (fun _ _ _ h => h) (Or.inl ⟨by rfl, ?_⟩) ?_ ?_
     rotate_left
     ·intro w'
      go_simp
      with_reducible rfl
     rotate_left
     ·exact zP
     refine pure_ (i := 2) (N := some 28) (v := ?_) (a' := ?_) #[o',z',o',z',z',z',z',z',z',z'] rfl rfl zA (fun _ _ _ h => h) (Or.inl ⟨by rfl, ?_⟩) ?_ ?_
     rotate_left
     ·intro w'
      go_simp
      with_reducible rfl
     rotate_left
     ·exact zP
     refine pure_ (i := 3) (N := some 29) (v := ?_) (a' := ?_) #[o',z',o',o',z',z',z',z',z',z'] rfl rfl zA (fun _ _ _ h => h) (Or.inl ⟨by rfl, ?_⟩) ?_ ?_
     rotate_left
     ·intro w'
      go_simp
      with_reducible rfl
     rotate_left
     ·exact zP
     refine pure_ (i := 4) (N := some 30) (v := ?_) (a' := ?_) #[o',z',o',o',o',z',z',z',z',z'] rfl rfl zA (fun _ _ _ h => h) (Or.inl ⟨by rfl, ?_⟩) ?_ ?_
     rotate_left
     ·intro w'
      go_simp
      with_reducible rfl
     rotate_left
     ·exact zP
     refine take_ (i := 1) (N := some 27) (v := ?_) (a' := ?_) #[o',o',o',o',o',z',z',z',z',z'] rfl rfl (take_ofW HT_.out HW_.out (by kernel_rfl)) (fun _ _ _ h => h) (Or.inl ⟨by rfl, ?_⟩) hHeld ?_ ?_
     rotate_left
     ·rintro w' ⟨s0, s1, s2, s3, s4, s5⟩
      go_simp
      with_reducible rfl
     rotate_left
     ·exact zP
     refine take_ (i := 5) (N := some 31) (v := ?_) (a' := ?_) #[o',o',o',o',o',o',z',z',z',z'] rfl rfl (take_ofW HT_.out HW_.out (by kernel_rfl)) (fun _ _ _ h => h) (Or.inl ⟨by rfl, ?_⟩) hHeld ?_ ?_
     rotate_left
     ·rintro w' ⟨s0, s1, s2, s3, s4, s5⟩
      go_simp
      with_reducible rfl
     rotate_left
     ·exact zP
     refine one_ (i := 6) (N := some 32) #[o',o',o',o',o',o',o',z',z',z'] rfl rfl (one_of HT_.out (by kernel_rfl)) (by decide) (fun K hK => ?_)
     refine goes_ Try.func102 (by kernel_rfl) rfl #[.agg #[.int .i64 ((rd_T71 (rd_L4 l0 x14_1) x22_2).f0), .int .i64 ((rd_T71 (rd_L4 l0 x14_1) x22_2).f1), .int .i64 ((rd_T71 (rd_L4 l0 x14_1) x22_2).f2)], .agg #[.int .i64 ((rd_T71 l1 x14_1).f0), .int .i64 ((rd_T71 l1 x14_1).f1), .int .i64 ((rd_T71 l1 x14_1).f2)]] (by rfl) rfl rfl zL ?_
     with_reducible refine (impl_plusCube.calls ((rd_T71 (rd_L4 l0 x14_1) x22_2).f0) ((rd_T71 (rd_L4 l0 x14_1) x22_2).f1) ((rd_T71 (rd_L4 l0 x14_1) x22_2).f2) ((rd_T71 l1 x14_1).f0) ((rd_T71 l1 x14_1).f1) ((rd_T71 l1 x14_1).f2) t418 t419 t420 _ A15.out).mono ?_
     rintro e w21 ⟨rfl, hb⟩
     refine ⟨_, rfl, ?_⟩
     have n0_ := am (Kd.S_below (by (with_reducible repeat (first | apply Kd.S_alloc | apply Kd.S_drewN | apply Kd.S_drew)); exact HO_5.out) hb)
     have n1_ := am (Kd.R_below (zR HO_8) hb)
     have n2_ := am (Bk4 (g := gb416) (o := .cells #[.int .i64 ((rd_T71 (rd_L4 l0 x14_1) x22_2).f0), .int .i64 ((rd_T71 (rd_L4 l0 x14_1) x22_2).f1), .int .i64 ((rd_T71 (rd_L4 l0 x14_1) x22_2).f2)] 71 (0, 0)) (zK BK416) hb)
     have n3_ := am (Bb6 (by repeat (first | (with_reducible first | exact HB.out | apply Bb1 | apply Bb2 | apply Bb3 | refine Bb4 ?_ GE416.out) | exact HB.out)) hb)
     clear HO_5
     clear HO_8
     clear BK416
     clear HB
     have HO_5 := n0_
     have HO_8 := n1_
     have BK416 := n2_
     have HB := n3_
     clear n0_ n1_ n2_ n3_
     (try clear hb)
     (try clear hb2)
     (try clear hk)
     (try clear hi)
     refine hK.out _ _ ⟨(kc BK416.out 0).trans rfl, (kc BK416.out 1).trans rfl, (kc BK416.out 2).trans rfl, (pc HB.out hw417_0), (pc HB.out hw417_1), (pc HB.out hw417_2)⟩ (fun hHeld => ?_)
     clear hK K
     refine norm_ (a' := ?_) ?_ ?_
     rotate_left
     ·show Act.put _ (some 32) _ = _
      simp only [Act.put, sa, i64_w, i32_w]
      rfl
     refine one_ (i := 7) (N := some 33) #[o',o',o',o',o',o',o',o',z',z'] rfl rfl (one_of HT_.out (by kernel_rfl)) (by decide) (fun K hK => ?_)
     refine value_ (w1 := ?_) (v := ?_) (by rfl) rfl ?_ ?_
     rotate_left 2
     ·go_simp
      constructor
      ·rfl
      rfl
     refine hK.out _ _ ⟨(kc (Bk1 BK416.out _) 0).trans rfl, (kc (Bk1 BK416.out _) 1).trans rfl, (kc (Bk1 BK416.out _) 2).trans rfl, (World.cell?_alloc_lt _ _ _ (World.block_lt_of_cell? _ _ ((pc HB.out hw417_0)))).trans ((pc HB.out hw417_0)), (World.cell?_alloc_lt _ _ _ (World.block_lt_of_cell? _ _ ((pc HB.out hw417_1)))).trans ((pc HB.out hw417_1)), (World.cell?_alloc_lt _ _ _ (World.block_lt_of_cell? _ _ ((pc HB.out hw417_2)))).trans ((pc HB.out hw417_2))⟩ (fun hHeld => ?_)
     clear hK K
     refine norm_ (a' := ?_) ?_ ?_
     rotate_left
     ·show Act.put _ (some 33) _ = _
      simp only [Act.put, sa, i64_w, i32_w]
      rfl
     refine one_ (i := 8) (N := some 34) #[o',o',o',o',o',o',o',o',o',z'] rfl rfl (one_of HT_.out (by kernel_rfl)) (by decide) (fun K hK => ?_)
     refine Kd.R_append_step k71 (w0 := w) w.heap.size (by rfl) (.tmp 26) (.tmp 33) 36 71 (.agg #[(.int .i64 0), (.int .i64 0), (.int .i64 0)]) 24 rfl Try.underlying36 info71 rfl (by decide) (by omega) u8 x8_2 (⟨t418, t419, t420⟩ : S71) [.int .i64 t418, .int .i64 t419, .int .i64 t420] (fun k_ => k_ ≠ gb416) (fun _ => False) rfl rfl ?aP (fun _ hk => hk.elim) ?aF ?aO ?aB ?aS ?aL ?_
     (case aP => exact k71_mkM _ _ _ (⟨t418, t419, t420⟩ : S71))
     (case aB => exact (by repeat (first | (with_reducible first | exact HB.out | apply Bb1 | apply Bb2 | apply Bb3 | refine Bb4 ?_ GE416.out) | exact HB.out)))
     (case aF => exact (fun k_ hk => Kd.freshB (g := gb416) (o := .cells #[.int .i64 ((rd_T71 (rd_L4 l0 x14_1) x22_2).f0), .int .i64 ((rd_T71 (rd_L4 l0 x14_1) x22_2).f1), .int .i64 ((rd_T71 (rd_L4 l0 x14_1) x22_2).f2)] 71 (0, 0)) (zK BK416) k_ hk))
     (case aO => exact (zR HO_8))
     (case aS => exact (Bb5 (by repeat (first | (with_reducible first | exact HB.out | apply Bb1 | apply Bb2 | apply Bb3 | refine Bb4 ?_ GE416.out) | exact HB.out))))
     (case aL => have := LMc16.out; omega)
     intro v422 w22 ho hb hg hat
     rw [← Ny421.out] at ho
     have n0_ := am (Kd.S_after (ok := (fun k_ => k_ ≠ gb416)) (by (with_reducible repeat (first | apply Kd.S_alloc | apply Kd.S_drewN | apply Kd.S_drew)); exact Kd.S_mono HO_5.out (fun _ hk => ⟨hk.2, hk.1⟩)) hg hat)
     have n1_ := am (blk_grown (g := gb416) (o := .cells #[.int .i64 ((rd_T71 (rd_L4 l0 x14_1) x22_2).f0), .int .i64 ((rd_T71 (rd_L4 l0 x14_1) x22_2).f1), .int .i64 ((rd_T71 (rd_L4 l0 x14_1) x22_2).f2)] 71 (0, 0)) (zK BK416) hg (Kd.R_away HO_8.out (fun _ hk => hk)))
     have n2_ := am (hb)
     have n3_ := am (ho)
     clear HO_5
     clear BK416
     clear HB
     clear HO_8
     have HO_5 := n0_
     have BK416 := n1_
     have HB := n2_
     have HO423 := n3_
     clear n0_ n1_ n2_ n3_
     clear ho hb hg hat
     refine hK.out _ _ ⟨(kc BK416.out 0).trans rfl, (kc BK416.out 1).trans rfl, (kc BK416.out 2).trans rfl, (pc HB.out hw417_0), (pc HB.out hw417_1), (pc HB.out hw417_2)⟩ (fun hHeld => ?_)
     clear hK K
     refine norm_ (a' := ?_) ?_ ?_
     rotate_left
     ·show Act.put _ (some 34) _ = _
      simp only [Act.put, sa, i64_w, i32_w]
      rfl
     refine pure_ (i := 9) (N := some 8) (v := ?_) (a' := ?_) #[o',o',o',o',o',o',o',o',o',o'] rfl rfl zA (fun _ _ _ h => h) (Or.inl ⟨by rfl, ?_⟩) ?_ ?_
     rotate_left
     ·intro w'
      go_simp
      with_reducible rfl
     rotate_left
     ·exact zP
     refine done_ (done_of HT_.out (by kernel_rfl)) ?_
     try go_wp2
     go_roundg k2
     case measure => have := HK1.out; have := HK2.out; omega
     case rel => exact ⟨(y421), (wrap64 (x22_2 + 1)), zS, H', ⟨by have := HK1.out; have := HK2.out; omega⟩, ⟨by (with_reducible repeat (first | apply Kd.S_alloc | apply Kd.S_drewN | apply Kd.S_drew)); exact Kd.S_mono HO_5.out (fun _ hk => hk.2)⟩, ⟨by (with_reducible repeat (first | apply Kd.R_alloc | apply Kd.R_drewN | apply Kd.R_drew)); exact Kd.R_mono HO423.out (fun _ hk => trivial)⟩, ⟨by repeat (first | (with_reducible first | exact HB.out | apply Bb1 | apply Bb2 | apply Bb3 | refine Bb4 ?_ GE416.out) | exact HB.out)⟩⟩

end Go.Proofs.Ytjgnlakgojookaa.Q
