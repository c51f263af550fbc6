/- Written by a program of this session (wip/tools/pp.py) out of the translation, with the kit's printer. -/
import Derived.Test.YtjgnlakgojookaaQ0
import Derived.Test.YtjgnlakgojookaaQ12
namespace Go.Proofs.Ytjgnlakgojookaa.Q
open Go.RowKit Go.Proofs.YtjgnlakgojookaaW.PrintWords Go.Proofs.YtjgnlakgojookaaW.PrintLast Go.Proofs.YtjgnlakgojookaaW.PrintMore
attribute [local go_sem] max2_int min2_int max_two min_two max_three min_three max_four min_four
set_option linter.unusedVariables false
set_option linter.unusedSimpArgs false

/-! ### impl_connectedCubes: function 60 -/
mutual
def impl_connectedCubes.l0 : Nat → List (S71) → List (S71) → Int → Option (Bool)
 | 0, _, _, _ => none
 | k + 1, x0, x3, x4 => if x4 < (x3.length : Int) then (if 0 ≤ x4 then ((impl_cubesAround.f ((rd_T71 x3 x4).f0) ((rd_T71 x3 x4).f1) ((rd_T71 x3 x4).f2)).bind fun t201 => (impl_connectedCubes.l1 k x0 x3 x4 t201 (t201.length : Int) 0)) else (none)) else (some ((x3.length : Int) == (x0.length : Int)))
def impl_connectedCubes.l1 : Nat → List (S71) → List (S71) → Int → List (S71) → Int → Int → Option (Bool)
 | 0, _, _, _, _, _, _ => none
 | k + 1, x0, x3, x4, x21, x22, x23 => if x23 < x22 then (if 0 ≤ x23 then (if x23 < (x21.length : Int) then ((impl_Cube_97.f k x0 ((rd_T71 x21 x23).f0) ((rd_T71 x21 x23).f1) ((rd_T71 x21 x23).f2)).bind fun t206 => (if t206 = true then ((impl_Cube_97.f k x3 ((rd_T71 x21 x23).f0) ((rd_T71 x21 x23).f1) ((rd_T71 x21 x23).f2)).bind fun t207 => (if t207 = true then (impl_connectedCubes.l1 k x0 x3 x4 x21 x22 (wrap64 (x23 + 1))) else (if x3.length < 5864062014805 then (impl_connectedCubes.l1 k x0 (x3 ++ [(⟨(rd_T71 x21 x23).f0, (rd_T71 x21 x23).f1, (rd_T71 x21 x23).f2⟩ : S71)]) x4 x21 x22 (wrap64 (x23 + 1))) else (none)))) else (impl_connectedCubes.l1 k x0 x3 x4 x21 x22 (wrap64 (x23 + 1))))) else (none)) else (none)) else (impl_connectedCubes.l0 k x0 x3 (wrap64 (x4 + 1)))
end
def impl_connectedCubes.f (k : Nat) (l0 : List (S71)) : Option (Bool) := if 0 < (l0.length : Int) then (impl_connectedCubes.l0 k l0 (([(⟨(rd_T71 l0 0).f0, (rd_T71 l0 0).f1, (rd_T71 l0 0).f2⟩ : S71)] : List (S71))) 0) else (none)
theorem impl_connectedCubes.mono_l : ∀ k, (∀ y0 y1 y2, LeO (impl_connectedCubes.l0 k y0 y1 y2) (impl_connectedCubes.l0 (k + 1) y0 y1 y2)) ∧ (∀ y0 y1 y2 y3 y4 y5, LeO (impl_connectedCubes.l1 k y0 y1 y2 y3 y4 y5) (impl_connectedCubes.l1 (k + 1) y0 y1 y2 y3 y4 y5))
 | 0 => ⟨fun _ _ _ r h => by simp [impl_connectedCubes.l0] at h, fun _ _ _ _ _ _ r h => by simp [impl_connectedCubes.l1] at h⟩
 | k + 1 => by
  obtain ⟨ih0, ih1⟩ := impl_connectedCubes.mono_l k
  refine ⟨?_, ?_⟩
  ·intro y0 y1 y2
   unfold impl_connectedCubes.l0
   repeat' first
   | (with_reducible exact ih0 _ _ _)
   | (with_reducible exact ih1 _ _ _ _ _ _)
   | (with_reducible exact impl_Cube_97.mono _ _ _ _ _)
   | (with_reducible exact LeO.refl _)
   | (with_reducible exact LeO.none _)
   | (with_reducible refine LeO.ite ?_ ?_)
   | (with_reducible refine LeO.bind ?_ (fun _ => ?_))
   | exact ih0 _ _ _
   | exact ih1 _ _ _ _ _ _
   | exact impl_Cube_97.mono _ _ _ _ _
   | exact LeO.none _
   | refine LeO.ite ?_ ?_
   | refine LeO.bind ?_ (fun _ => ?_)
  ·intro y0 y1 y2 y3 y4 y5
   unfold impl_connectedCubes.l1
   repeat' first
   | (with_reducible exact ih0 _ _ _)
   | (with_reducible exact ih1 _ _ _ _ _ _)
   | (with_reducible exact impl_Cube_97.mono _ _ _ _ _)
   | (with_reducible exact LeO.refl _)
   | (with_reducible exact LeO.none _)
   | (with_reducible refine LeO.ite ?_ ?_)
   | (with_reducible refine LeO.bind ?_ (fun _ => ?_))
   | exact ih0 _ _ _
   | exact ih1 _ _ _ _ _ _
   | exact impl_Cube_97.mono _ _ _ _ _
   | exact LeO.none _
   | refine LeO.ite ?_ ?_
   | refine LeO.bind ?_ (fun _ => ?_)
theorem impl_connectedCubes.mono : ∀ a0 k, LeO (impl_connectedCubes.f k a0) (impl_connectedCubes.f (k + 1) a0) := by
 intro a0 k
 obtain ⟨ih0, ih1⟩ := impl_connectedCubes.mono_l k
 unfold impl_connectedCubes.f
 repeat' first
   | (with_reducible exact ih0 _ _ _)
   | (with_reducible exact ih1 _ _ _ _ _ _)
   | (with_reducible exact impl_Cube_97.mono _ _ _ _ _)
   | (with_reducible exact LeO.refl _)
   | (with_reducible exact LeO.none _)
   | (with_reducible refine LeO.ite ?_ ?_)
   | (with_reducible refine LeO.bind ?_ (fun _ => ?_))
   | exact ih0 _ _ _
   | exact ih1 _ _ _ _ _ _
   | exact impl_Cube_97.mono _ _ _ _ _
   | exact LeO.none _
   | refine LeO.ite ?_ ?_
   | refine LeO.bind ?_ (fun _ => ?_)
set_option maxHeartbeats 8000000 in
set_option maxRecDepth 100000 in
theorem impl_connectedCubes.calls (k : Nat) (A0 : Option Addr) (c0 : Nat) (l0 : List (S71)) (r : Bool) (w : World) (hr0 : Kd.C k71 w A0 l0.length l0) (hc0 : l0.length ≤ c0) (h : impl_connectedCubes.f k l0 = some r) :
  Calls Try.prog 60 #[.slice A0 l0.length c0] w fun e w' => e = .returned (.bool r) ∧ Below w.heap.size w w' := by
 have hu71 := Try.underlying71
 have HR0 := am hr0
 have HC0 := am hc0
 clear hr0 hc0
 have HB := am (Below.refl w.heap.size w)
 have H : (if 0 < (l0.length : Int) then (impl_connectedCubes.l0 k l0 (([(⟨(rd_T71 l0 0).f0, (rd_T71 l0 0).f1, (rd_T71 l0 0).f2⟩ : S71)] : List (S71))) 0) else (none)) = some r := h
 clear h
 by_cases c2 : 0 < (l0.length : Int)
 rotate_left
 ·rw [if_neg c2] at H
  exact absurd H (by simp)
 rw [if_pos c2] at H
 have c2b0 : decide (0 < (l0.length : Int)) = true := decide_eq_true c2
 have c2b1 : decide (0 < l0.length) = true := decide_eq_true (by omega)
 clear c2
 obtain ⟨y197, hy197⟩ : ∃ y_ : List (S71), y_ = (([(⟨(rd_T71 l0 0).f0, (rd_T71 l0 0).f1, (rd_T71 l0 0).f2⟩ : S71)] : List (S71))) := ⟨_, rfl⟩
 replace H : (impl_connectedCubes.l0 k l0 y197 0) = some r := by first | (rw [hy197]; with_reducible exact H) | (have H2_ := (Option.bind_some _ _).symm.trans H; rw [hy197]; with_reducible exact H2_) | (have H2_ := (Option.bind_some _ _).symm.trans H; with_reducible exact H2_) | with_reducible exact H | (rw [hy197]; exact H) | exact H
 have Ny197 := am hy197
 clear hy197
 have H' := am H
 clear H
 have p196 : 0 ≤ (0 : Int) := (by omega)
 have q196 : 0 < (l0.length : Int) := zD
 obtain ⟨ad196, e196, hx196_0, hx196_1, hx196_2⟩ := at_T71 HR0.out 0 p196 q196
 cases e196
 have qi196 : (0 < l0.length) = True := eq_true (by omega)
 (try rw [show ((0 : Int)).toNat = 0 from rfl] at hx196_0)
 (try rw [show 0 * 3 = 0 from rfl] at hx196_0)
 (try rw [Addr.add_zero'] at hx196_0)
 (try rw [show ((0 : Int)).toNat = 0 from rfl] at hx196_1)
 (try rw [show 0 * 3 = 0 from rfl] at hx196_1)
 (try rw [Addr.add_zero'] at hx196_1)
 (try rw [show ((0 : Int)).toNat = 0 from rfl] at hx196_2)
 (try rw [show 0 * 3 = 0 from rfl] at hx196_2)
 (try rw [Addr.add_zero'] at hx196_2)
 replace p196 := eq_true p196
 replace q196 := eq_true q196
 go_enter Try.func60, Try.ntmps60
 go_wp2_with (first | ((with_reducible refine gate_dst (N := 10) rfl ?_); refine Kd.R_lit k71 _ 71 ?hg (N := 10) ?hd (xs := ([(⟨(rd_T71 l0 0).f0, (rd_T71 l0 0).f1, (rd_T71 l0 0).f2⟩ : S71)] : List (S71))) (inner := [.int .i64 ((rd_T71 l0 0).f0), .int .i64 ((rd_T71 l0 0).f1), .int .i64 ((rd_T71 l0 0).f2)]) (ok := fun _ => True) (okp := fun _ => True) ?hr ?hp (fun _ hk => hk) trivial (Below.refl _ _) (Nat.le_refl _) (by simp) ?_; (case hd => rfl); (case hg => rfl); (case hr => first | (go_simp; done) | (go_simp; rfl)); (case hp => exact (Reps.c3 (show Kd.M k71 _ _ _ (⟨(rd_T71 l0 0).f0, (rd_T71 l0 0).f1, (rd_T71 l0 0).f2⟩ : S71) [.int .i64 ((rd_T71 l0 0).f0), .int .i64 ((rd_T71 l0 0).f1), .int .i64 ((rd_T71 l0 0).f2)] from (k71_mkM _ _ _ (⟨(rd_T71 l0 0).f0, (rd_T71 l0 0).f1, (rd_T71 l0 0).f2⟩ : S71) )) (Reps.none _ _))); intro v198 w3 ho4 hb hg_ hnew_; clear hg_ hnew_; (first | rw [← Ny197.out] at ho4 | (simp only [Int.reduceToNat] at ho4; rw [← Ny197.out] at ho4)); have n0_ := am (Kd.R_lower ho4 (Bb5 zB)); have n1_ := am (Bb6 zB hb); clear HB; have HO199 := n0_; have HB := n1_; clear n0_ n1_; clear hb ho4))
 go_loopg [3, 4] k (fun kq v3 v4 w' => ∃ (x3_1 : List (S71)) (x4_1 : Int), v4 = .int .i64 x4_1 ∧ Aside0 (impl_connectedCubes.l0 kq l0 x3_1 x4_1 = some r) ∧ Aside0 (kq ≤ k) ∧ Aside0 (Kd.R k71 71 w' w.heap.size (fun _ => True) v3 x3_1) ∧ Aside0 (Below w.heap.size w w'))
 case atStart => exact ⟨(y197), (0), zS, H', ⟨Nat.le_refl _⟩, ⟨zR HO199⟩, ⟨zB⟩⟩
 case round =>
  clear H'
  try clear p1
  try clear q1
  try clear hx1
  try clear qi1
  try clear c2
  try clear c2b0
  try clear c2b1
  try clear p2
  try clear c3
  try clear hx196_0
  try clear hx196_1
  try clear hx196_2
  try clear p196
  try clear q196
  obtain ⟨x3_1, x4_1, rfl, HA, HK1, HO_3, HB⟩ := hrel
  cases gk with
  | zero => exact absurd HA.out (by simp [impl_connectedCubes.l0])
  | succ k1 =>
   have H := HA.out
   clear HA
   simp only [impl_connectedCubes.l0] at H
   by_cases c5 : x4_1 < (x3_1.length : Int)
   rotate_left
   ·rw [if_neg c5] at H
    have c5b0 : decide (x4_1 < (x3_1.length : Int)) = false := decide_eq_false c5
    clear c5
    obtain rfl := oi H
    obtain ⟨Ao36, co36, eo36⟩ := Kd.R_slice HO_3.out
    subst eo36
    go_wp2
    go_ret
    exact ⟨zE, zB⟩
   rw [if_pos c5] at H
   have c5b0 : decide (x4_1 < (x3_1.length : Int)) = true := decide_eq_true c5
   clear c5
   by_cases c6 : 0 ≤ x4_1
   rotate_left
   ·rw [if_neg c6] at H
    exact absurd H (by simp)
   rw [if_pos c6] at H
   have c6b0 : decide (0 ≤ x4_1) = true := decide_eq_true c6
   clear c6
   replace H := ob H
   obtain ⟨t201, A70, H⟩ := H
   (try dsimp only at H)
   have A7 := am A70
   clear A70
   have H' := am H
   clear H
   obtain ⟨Ao8, co8, eo8⟩ := Kd.R_slice HO_3.out
   subst eo8
   have p200 : 0 ≤ (x4_1 : Int) := zD
   have q200 : x4_1 < (x3_1.length : Int) := zD
   obtain ⟨ad200, e200, hx200_0, hx200_1, hx200_2⟩ := at_T71 (Kd.R_reads' HO_3.out).2.2 x4_1 p200 q200
   cases e200
   replace p200 := eq_true p200
   replace q200 := eq_true q200
   go_wp2_with (first | ((with_reducible refine gate_callee (f := 96) rfl ?_); refine goesL_ (some 21) rfl rfl Try.func96 (by kernel_rfl) rfl #[.agg #[.int .i64 ((rd_T71 x3_1 x4_1).f0), .int .i64 ((rd_T71 x3_1 x4_1).f1), .int .i64 ((rd_T71 x3_1 x4_1).f2)]] rfl zL ?_; (with_reducible refine (impl_cubesAround.calls ((rd_T71 x3_1 x4_1).f0) ((rd_T71 x3_1 x4_1).f1) ((rd_T71 x3_1 x4_1).f2) t201 _ A7.out).mono ?_); rintro e w9 ⟨v202, rfl, ho0, hb⟩; refine ⟨_, rfl, ?_⟩; have n0_ := am (Kd.R_elder' (zR HO_3) (Kd.R_base ho0) hb); have n1_ := am (Kd.R_lower (Kd.R_new' ho0 (Kd.R_lt (zR HO_3))) (Bb5 zB)); have n2_ := am (Bb6 zB hb); clear HO_3; clear HB; have HO_3 := n0_; have HO203 := n1_; have HB := n2_; clear n0_ n1_ n2_; (try clear hb); (try clear hb2); (try clear hk); (try clear hi); (try clear ho0); obtain ⟨Ao10, co10, eo10⟩ := Kd.R_slice HO203.out; subst eo10))
   go_loopg [3, 23] k1 (fun kq v3 v23 w' => ∃ (x3_2 : List (S71)) (x23_2 : Int), v23 = .int .i64 x23_2 ∧ Aside0 (impl_connectedCubes.l1 kq l0 x3_2 x4_1 t201 (t201.length : Int) x23_2 = some r) ∧ Aside0 (kq ≤ k1) ∧ Aside0 (Kd.R k71 71 w' w.heap.size (fun k_ => some k_ ≠ ((.slice Ao10 t201.length co10) : Value).ownBlock) v3 x3_2) ∧ Aside0 (Kd.R k71 71 w' w.heap.size (fun k_ => some k_ ≠ (v3 : Value).ownBlock) (.slice Ao10 t201.length co10) t201) ∧ Aside0 (Below w.heap.size w w'))
   case atStart => exact ⟨(x3_1), (0), zS, H', ⟨Nat.le_refl _⟩, ⟨by (with_reducible repeat (first | apply Kd.R_alloc | apply Kd.R_drewN | apply Kd.R_drew)); exact Kd.R_mono HO_3.out (fun _ hk => hk.2)⟩, ⟨by (with_reducible repeat (first | apply Kd.R_alloc | apply Kd.R_drewN | apply Kd.R_drew)); exact Kd.R_mono HO203.out (fun _ hk => hk.2)⟩, ⟨zB⟩⟩
   case round =>
    clear H'
    try clear p1
    try clear q1
    try clear hx1
    try clear qi1
    try clear c2
    try clear c2b0
    try clear c2b1
    try clear p2
    try clear q2
    try clear hx2
    try clear c3
    try clear c5
    try clear c5b0
    try clear c6
    try clear c6b0
    try clear c9
    try clear hx196_0
    try clear hx196_1
    try clear hx196_2
    try clear hx200_0
    try clear hx200_1
    try clear hx200_2
    try clear p1
    try clear p196
    try clear p2
    try clear p200
    try clear q1
    try clear q196
    try clear q200
    obtain ⟨x3_2, x23_2, rfl, HA, HK2, HO_3, HO_21, HB⟩ := hrel
    cases gk with
    | zero => exact absurd HA.out (by simp [impl_connectedCubes.l1])
    | succ k2 =>
     have H := HA.out
     clear HA
     simp only [impl_connectedCubes.l1] at H
     by_cases c11 : x23_2 < (t201.length : Int)
     rotate_left
     ·rw [if_neg c11] at H
      have c11b0 : decide (x23_2 < (t201.length : Int)) = false := decide_eq_false c11
      clear c11
      have H' := am H
      clear H
      go_wp2
      go_roundg k2
      case measure => have := HK1.out; have := HK2.out; omega
      case rel => exact ⟨(x3_2), (wrap64 (x4_1 + 1)), zS, H', ⟨by have := HK1.out; have := HK2.out; omega⟩, ⟨by (with_reducible repeat (first | apply Kd.R_alloc | apply Kd.R_drewN | apply Kd.R_drew)); exact Kd.R_mono HO_3.out (fun _ hk => trivial)⟩, ⟨zB⟩⟩
     rw [if_pos c11] at H
     have c11b0 : decide (x23_2 < (t201.length : Int)) = true := decide_eq_true c11
     clear c11
     by_cases c12 : 0 ≤ x23_2
     rotate_left
     ·rw [if_neg c12] at H
      exact absurd H (by simp)
     rw [if_pos c12] at H
     have c12b0 : decide (0 ≤ x23_2) = true := decide_eq_true c12
     clear c12
     by_cases c13 : x23_2 < (t201.length : Int)
     rotate_left
     ·rw [if_neg c13] at H
      exact absurd H (by simp)
     rw [if_pos c13] at H
     have c13b0 : decide (x23_2 < (t201.length : Int)) = true := decide_eq_true c13
     clear c13
     replace H := ob H
     obtain ⟨t206, A140, H⟩ := H
     (try dsimp only at H)
     have A14 := am A140
     clear A140
     by_cases c15 : t206 = true
     rotate_left
     ·replace c15 := ef c15
      subst c15
      have H1 : (impl_connectedCubes.l1 k2 l0 x3_2 x4_1 t201 (t201.length : Int) (wrap64 (x23_2 + 1))) = some r := by first | (rw [if_neg (show ¬ (false = true) by decide)] at H; exact H) | rfl
      clear H
      have H := H1
      clear H1
      have H' := am H
      clear H
      have p204 : 0 ≤ (x23_2 : Int) := zD
      have q204 : x23_2 < (t201.length : Int) := zD
      obtain ⟨ad204, e204, hx204_0, hx204_1, hx204_2⟩ := at_T71 (Kd.R_reads' HO_21.out).2.2 x23_2 p204 q204
      cases e204
      replace p204 := eq_true p204
      replace q204 := eq_true q204
      go_wp2_with (first | ((with_reducible refine gate_dst (N := 6) rfl ?_); refine box_event ?hg (N := 6) ?hd (cs := #[.int .i64 0, .int .i64 0, .int .i64 0]) (t := 71) ?hr ?_; (case hd => rfl); (case hg => rfl); (case hr => first | (go_simp; done) | (go_simp; rfl)); intro gb205 hg w33 hbox hb; have n0_ := am (Kd.R_below (Kd.R_elderB (zR HO_3) gb205 (Nat.le_of_eq hg.symm)) hb); have n1_ := am (Kd.R_below (Kd.R_elderB (zR HO_21) gb205 (Nat.le_of_eq hg.symm)) hb); have n2_ := am (Bb6 zB hb); have n3_ := am (hbox); have n4_ := am ((by rw [hg]; exact (Bb5 zB) : w.heap.size ≤ gb205)); have n5_ := n4_; clear HO_3; clear HO_21; clear HB; have HO_3 := n0_; have HO_21 := n1_; have HB := n2_; have BK205 := n3_; have GW205 := n4_; have GE205 := n5_; clear n0_ n1_ n2_ n3_ n4_ n5_; clear hb hbox hg; have hcz34_0 : w33.cell? ⟨gb205, 0, none⟩ = some (.int .i64 0) := (kc BK205.out 0).trans rfl; have hcz34_1 : w33.cell? ⟨gb205, 1, none⟩ = some (.int .i64 0) := (kc BK205.out 1).trans rfl; have hcz34_2 : w33.cell? ⟨gb205, 2, none⟩ = some (.int .i64 0) := (kc BK205.out 2).trans rfl; have hfz34_0 := kf BK205.out 0; have hfz34_1 := kf BK205.out 1; have hfz34_2 := kf BK205.out 2) | ((with_reducible refine gate_callee (f := 97) rfl ?_); refine goesL_ (some 29) rfl rfl Try.func97 (by kernel_rfl) rfl #[.slice (some ad196) l0.length c0, .agg #[.int .i64 ((rd_T71 t201 x23_2).f0), .int .i64 ((rd_T71 t201 x23_2).f1), .int .i64 ((rd_T71 t201 x23_2).f2)]] rfl zL ?_; (with_reducible refine (impl_Cube_97.calls k2 _ _ l0 ((rd_T71 t201 x23_2).f0) ((rd_T71 t201 x23_2).f1) ((rd_T71 t201 x23_2).f2) false _ ?side1 ?side2 A14.out).mono ?_); (case side1 => exact Kd.C_below HR0.out (by repeat (first | (with_reducible first | exact HB.out | apply Bb1 | apply Bb2 | apply Bb3 | refine Bb4 ?_ GE205.out) | exact HB.out))); (case side2 => exact HC0.out); rintro e w35 ⟨rfl, hb⟩; refine ⟨_, rfl, ?_⟩; have n0_ := am (Kd.R_below (by (with_reducible repeat (first | apply Kd.R_alloc | apply Kd.R_drewN | apply Kd.R_drew)); exact (Kd.R_mono (Kd.R_far (p := ⟨gb205, 2, none⟩) (Kd.R_far (p := ⟨gb205, 1, none⟩) (Kd.R_far (p := ⟨gb205, 0, none⟩) (Kd.R_mono HO_3.out (fun k_ hk => (⟨hk, hk.2⟩ : _ ∧ k_ ≠ gb205))) (fun _ hk => hk.2) (.int .i64 ((rd_T71 t201 x23_2).f0))) (fun _ hk => hk.2) (.int .i64 ((rd_T71 t201 x23_2).f1))) (fun _ hk => hk.2) (.int .i64 ((rd_T71 t201 x23_2).f2))) (fun _ h_ => h_.1))) hb); have n1_ := am (Kd.R_below (by (with_reducible repeat (first | apply Kd.R_alloc | apply Kd.R_drewN | apply Kd.R_drew)); exact (Kd.R_mono (Kd.R_far (p := ⟨gb205, 2, none⟩) (Kd.R_far (p := ⟨gb205, 1, none⟩) (Kd.R_far (p := ⟨gb205, 0, none⟩) (Kd.R_mono HO_21.out (fun k_ hk => (⟨hk, hk.2⟩ : _ ∧ k_ ≠ gb205))) (fun _ hk => hk.2) (.int .i64 ((rd_T71 t201 x23_2).f0))) (fun _ hk => hk.2) (.int .i64 ((rd_T71 t201 x23_2).f1))) (fun _ hk => hk.2) (.int .i64 ((rd_T71 t201 x23_2).f2))) (fun _ h_ => h_.1))) hb); have n2_ := am (Bk4 (g := gb205) (o := .cells #[.int .i64 ((rd_T71 t201 x23_2).f0), .int .i64 ((rd_T71 t201 x23_2).f1), .int .i64 ((rd_T71 t201 x23_2).f2)] 71 (0, 0)) (by (with_reducible repeat (first | refine Bk2 ?_ _ | refine Bk3 ?_ | refine Bk1 ?_ _)); refine blk_put (cs := #[.int .i64 ((rd_T71 t201 x23_2).f0), .int .i64 ((rd_T71 t201 x23_2).f1), .int .i64 0]) ?_ 2 _ rfl; (with_reducible repeat (first | refine Bk2 ?_ _ | refine Bk3 ?_ | refine Bk1 ?_ _)); refine blk_put (cs := #[.int .i64 ((rd_T71 t201 x23_2).f0), .int .i64 0, .int .i64 0]) ?_ 1 _ rfl; (with_reducible repeat (first | refine Bk2 ?_ _ | refine Bk3 ?_ | refine Bk1 ?_ _)); refine blk_put (cs := #[.int .i64 0, .int .i64 0, .int .i64 0]) ?_ 0 _ rfl; (with_reducible repeat (first | refine Bk2 ?_ _ | refine Bk3 ?_ | refine Bk1 ?_ _)); exact BK205.out) hb); have n3_ := am (Bb6 (by repeat (first | (with_reducible first | exact HB.out | apply Bb1 | apply Bb2 | apply Bb3 | refine Bb4 ?_ GE205.out) | exact HB.out)) hb); clear HO_3; clear HO_21; clear BK205; clear HB; have HO_3 := n0_; have HO_21 := n1_; have BK205 := n2_; have HB := n3_; clear n0_ n1_ n2_ n3_; (try clear hb); (try clear hb2); (try clear hk); (try clear hi)))
      go_roundg k2
      case measure => have := HK1.out; have := HK2.out; omega
      case rel => exact ⟨(x3_2), (wrap64 (x23_2 + 1)), zS, H', ⟨by have := HK1.out; have := HK2.out; omega⟩, ⟨by (with_reducible repeat (first | apply Kd.R_alloc | apply Kd.R_drewN | apply Kd.R_drew)); exact Kd.R_mono HO_3.out (fun _ hk => hk.1)⟩, ⟨by (with_reducible repeat (first | apply Kd.R_alloc | apply Kd.R_drewN | apply Kd.R_drew)); exact Kd.R_mono HO_21.out (fun _ hk => hk.1)⟩, ⟨by repeat (first | (with_reducible first | exact HB.out | apply Bb1 | apply Bb2 | apply Bb3 | refine Bb4 ?_ GE205.out) | exact HB.out)⟩⟩
     subst c15
     have H1 : ((impl_Cube_97.f k2 x3_2 ((rd_T71 t201 x23_2).f0) ((rd_T71 t201 x23_2).f1) ((rd_T71 t201 x23_2).f2)).bind fun t207 => (if t207 = true then (impl_connectedCubes.l1 k2 l0 x3_2 x4_1 t201 (t201.length : Int) (wrap64 (x23_2 + 1))) else (if x3_2.length < 5864062014805 then (impl_connectedCubes.l1 k2 l0 (x3_2 ++ [(⟨(rd_T71 t201 x23_2).f0, (rd_T71 t201 x23_2).f1, (rd_T71 t201 x23_2).f2⟩ : S71)]) x4_1 t201 (t201.length : Int) (wrap64 (x23_2 + 1))) else (none)))) = some r := by first | (rw [if_pos rfl] at H; exact H) | rfl
     clear H
     have H := H1
     clear H1
     replace H := ob H
     obtain ⟨t207, A160, H⟩ := H
     (try dsimp only at H)
     have A16 := am A160
     clear A160
     by_cases c17 : t207 = true
     ·subst c17
      have H1 : (impl_connectedCubes.l1 k2 l0 x3_2 x4_1 t201 (t201.length : Int) (wrap64 (x23_2 + 1))) = some r := by first | (rw [if_pos rfl] at H; exact H) | rfl
      clear H
      have H := H1
      clear H1
      have H' := am H
      clear H
      have p204 : 0 ≤ (x23_2 : Int) := zD
      have q204 : x23_2 < (t201.length : Int) := zD
      obtain ⟨ad204, e204, hx204_0, hx204_1, hx204_2⟩ := at_T71 (Kd.R_reads' HO_21.out).2.2 x23_2 p204 q204
      cases e204
      replace p204 := eq_true p204
      replace q204 := eq_true q204
      go_wp2_with (first | ((with_reducible refine gate_dst (N := 6) rfl ?_); refine box_event ?hg (N := 6) ?hd (cs := #[.int .i64 0, .int .i64 0, .int .i64 0]) (t := 71) ?hr ?_; (case hd => rfl); (case hg => rfl); (case hr => first | (go_simp; done) | (go_simp; rfl)); intro gb205 hg w18 hbox hb; have n0_ := am (Kd.R_below (Kd.R_elderB (zR HO_3) gb205 (Nat.le_of_eq hg.symm)) hb); have n1_ := am (Kd.R_below (Kd.R_elderB (zR HO_21) gb205 (Nat.le_of_eq hg.symm)) hb); have n2_ := am (Bb6 zB hb); have n3_ := am (hbox); have n4_ := am ((by rw [hg]; exact (Bb5 zB) : w.heap.size ≤ gb205)); have n5_ := n4_; clear HO_3; clear HO_21; clear HB; have HO_3 := n0_; have HO_21 := n1_; have HB := n2_; have BK205 := n3_; have GW205 := n4_; have GE205 := n5_; clear n0_ n1_ n2_ n3_ n4_ n5_; clear hb hbox hg; have hcz19_0 : w18.cell? ⟨gb205, 0, none⟩ = some (.int .i64 0) := (kc BK205.out 0).trans rfl; have hcz19_1 : w18.cell? ⟨gb205, 1, none⟩ = some (.int .i64 0) := (kc BK205.out 1).trans rfl; have hcz19_2 : w18.cell? ⟨gb205, 2, none⟩ = some (.int .i64 0) := (kc BK205.out 2).trans rfl; have hfz19_0 := kf BK205.out 0; have hfz19_1 := kf BK205.out 1; have hfz19_2 := kf BK205.out 2) | ((with_reducible refine gate_callee (f := 97) rfl ?_); refine goesL_ (some 29) rfl rfl Try.func97 (by kernel_rfl) rfl #[.slice (some ad196) l0.length c0, .agg #[.int .i64 ((rd_T71 t201 x23_2).f0), .int .i64 ((rd_T71 t201 x23_2).f1), .int .i64 ((rd_T71 t201 x23_2).f2)]] rfl zL ?_; (with_reducible refine (impl_Cube_97.calls k2 _ _ l0 ((rd_T71 t201 x23_2).f0) ((rd_T71 t201 x23_2).f1) ((rd_T71 t201 x23_2).f2) true _ ?side1 ?side2 A14.out).mono ?_); (case side1 => exact Kd.C_below HR0.out (by repeat (first | (with_reducible first | exact HB.out | apply Bb1 | apply Bb2 | apply Bb3 | refine Bb4 ?_ GE205.out) | exact HB.out))); (case side2 => exact HC0.out); rintro e w20 ⟨rfl, hb⟩; refine ⟨_, rfl, ?_⟩; have n0_ := am (Kd.R_below (by (with_reducible repeat (first | apply Kd.R_alloc | apply Kd.R_drewN | apply Kd.R_drew)); exact (Kd.R_mono (Kd.R_far (p := ⟨gb205, 2, none⟩) (Kd.R_far (p := ⟨gb205, 1, none⟩) (Kd.R_far (p := ⟨gb205, 0, none⟩) (Kd.R_mono HO_3.out (fun k_ hk => (⟨hk, hk.2⟩ : _ ∧ k_ ≠ gb205))) (fun _ hk => hk.2) (.int .i64 ((rd_T71 t201 x23_2).f0))) (fun _ hk => hk.2) (.int .i64 ((rd_T71 t201 x23_2).f1))) (fun _ hk => hk.2) (.int .i64 ((rd_T71 t201 x23_2).f2))) (fun _ h_ => h_.1))) hb); have n1_ := am (Kd.R_below (by (with_reducible repeat (first | apply Kd.R_alloc | apply Kd.R_drewN | apply Kd.R_drew)); exact (Kd.R_mono (Kd.R_far (p := ⟨gb205, 2, none⟩) (Kd.R_far (p := ⟨gb205, 1, none⟩) (Kd.R_far (p := ⟨gb205, 0, none⟩) (Kd.R_mono HO_21.out (fun k_ hk => (⟨hk, hk.2⟩ : _ ∧ k_ ≠ gb205))) (fun _ hk => hk.2) (.int .i64 ((rd_T71 t201 x23_2).f0))) (fun _ hk => hk.2) (.int .i64 ((rd_T71 t201 x23_2).f1))) (fun _ hk => hk.2) (.int .i64 ((rd_T71 t201 x23_2).f2))) (fun _ h_ => h_.1))) hb); have n2_ := am (Bk4 (g := gb205) (o := .cells #[.int .i64 ((rd_T71 t201 x23_2).f0), .int .i64 ((rd_T71 t201 x23_2).f1), .int .i64 ((rd_T71 t201 x23_2).f2)] 71 (0, 0)) (by (with_reducible repeat (first | refine Bk2 ?_ _ | refine Bk3 ?_ | refine Bk1 ?_ _)); refine blk_put (cs := #[.int .i64 ((rd_T71 t201 x23_2).f0), .int .i64 ((rd_T71 t201 x23_2).f1), .int .i64 0]) ?_ 2 _ rfl; (with_reducible repeat (first | refine Bk2 ?_ _ | refine Bk3 ?_ | refine Bk1 ?_ _)); refine blk_put (cs := #[.int .i64 ((rd_T71 t201 x23_2).f0), .int .i64 0, .int .i64 0]) ?_ 1 _ rfl; (with_reducible repeat (first | refine Bk2 ?_ _ | refine Bk3 ?_ | refine Bk1 ?_ _)); refine blk_put (cs := #[.int .i64 0, .int .i64 0, .int .i64 0]) ?_ 0 _ rfl; (with_reducible repeat (first | refine Bk2 ?_ _ | refine Bk3 ?_ | refine Bk1 ?_ _)); exact BK205.out) hb); have n3_ := am (Bb6 (by repeat (first | (with_reducible first | exact HB.out | apply Bb1 | apply Bb2 | apply Bb3 | refine Bb4 ?_ GE205.out) | exact HB.out)) hb); clear HO_3; clear HO_21; clear BK205; clear HB; have HO_3 := n0_; have HO_21 := n1_; have BK205 := n2_; have HB := n3_; clear n0_ n1_ n2_ n3_; (try clear hb); (try clear hb2); (try clear hk); (try clear hi); have hcz21_0 : w20.cell? ⟨gb205, 0, none⟩ = some (.int .i64 ((rd_T71 t201 x23_2).f0)) := (kc BK205.out 0).trans rfl; have hcz21_1 : w20.cell? ⟨gb205, 1, none⟩ = some (.int .i64 ((rd_T71 t201 x23_2).f1)) := (kc BK205.out 1).trans rfl; have hcz21_2 : w20.cell? ⟨gb205, 2, none⟩ = some (.int .i64 ((rd_T71 t201 x23_2).f2)) := (kc BK205.out 2).trans rfl; have hfz21_0 := kf BK205.out 0; have hfz21_1 := kf BK205.out 1; have hfz21_2 := kf BK205.out 2; obtain ⟨Ao22, co22, eo22⟩ := Kd.R_slice HO_3.out; subst eo22) | (go_at_call 97; (with_reducible refine (impl_Cube_97.calls k2 _ _ x3_2 ((rd_T71 t201 x23_2).f0) ((rd_T71 t201 x23_2).f1) ((rd_T71 t201 x23_2).f2) true _ ?side1 ?side2 A16.out).mono ?_); (case side1 => repeat (first | exact (Kd.R_reads' HO_3.out).2.2 | (with_reducible refine Kd.C_alloc ?_ _) | (with_reducible refine Kd.C_drewN ?_ _) | (with_reducible refine Kd.C_drew ?_))); (case side2 => exact (Kd.R_reads' HO_3.out).2.1); rintro e w23 ⟨rfl, hb⟩; have n0_ := am (Kd.R_below (zR HO_3) hb); have n1_ := am (Kd.R_below (zR HO_21) hb); have n2_ := am (Bk4 (g := gb205) (o := .cells #[.int .i64 ((rd_T71 t201 x23_2).f0), .int .i64 ((rd_T71 t201 x23_2).f1), .int .i64 ((rd_T71 t201 x23_2).f2)] 71 (0, 0)) (zK BK205) hb); have n3_ := am (Bb6 (by repeat (first | (with_reducible first | exact HB.out | apply Bb1 | apply Bb2 | apply Bb3 | refine Bb4 ?_ GE205.out) | exact HB.out)) hb); clear HO_3; clear HO_21; clear BK205; clear HB; have HO_3 := n0_; have HO_21 := n1_; have BK205 := n2_; have HB := n3_; clear n0_ n1_ n2_ n3_; (try clear hb); (try clear hb2); (try clear hk); (try clear hi)))
      go_roundg k2
      case measure => have := HK1.out; have := HK2.out; omega
      case rel => exact ⟨(x3_2), (wrap64 (x23_2 + 1)), zS, H', ⟨by have := HK1.out; have := HK2.out; omega⟩, ⟨by (with_reducible repeat (first | apply Kd.R_alloc | apply Kd.R_drewN | apply Kd.R_drew)); exact Kd.R_mono HO_3.out (fun _ hk => hk.1)⟩, ⟨by (with_reducible repeat (first | apply Kd.R_alloc | apply Kd.R_drewN | apply Kd.R_drew)); exact Kd.R_mono HO_21.out (fun _ hk => hk.1)⟩, ⟨by repeat (first | (with_reducible first | exact HB.out | apply Bb1 | apply Bb2 | apply Bb3 | refine Bb4 ?_ GE205.out) | exact HB.out)⟩⟩
     replace c17 := ef c17
     subst c17
     have H1 : (if x3_2.length < 5864062014805 then (impl_connectedCubes.l1 k2 l0 (x3_2 ++ [(⟨(rd_T71 t201 x23_2).f0, (rd_T71 t201 x23_2).f1, (rd_T71 t201 x23_2).f2⟩ : S71)]) x4_1 t201 (t201.length : Int) (wrap64 (x23_2 + 1))) else (none)) = some r := by first | (rw [if_neg (show ¬ (false = true) by decide)] at H; exact H) | rfl
     clear H
     have H := H1
     clear H1
     by_cases c24 : x3_2.length < 5864062014805
     rotate_left
     ·rw [if_neg c24] at H
      exact absurd H (by simp)
     rw [if_pos c24] at H
     have LMc24 := am c24
     clear c24
     obtain ⟨y208, hy208⟩ : ∃ y_ : List (S71), y_ = (x3_2 ++ [(⟨(rd_T71 t201 x23_2).f0, (rd_T71 t201 x23_2).f1, (rd_T71 t201 x23_2).f2⟩ : S71)]) := ⟨_, rfl⟩
     replace H : (impl_connectedCubes.l1 k2 l0 y208 x4_1 t201 (t201.length : Int) (wrap64 (x23_2 + 1))) = some r := by first | (rw [hy208]; with_reducible exact H) | (have H2_ := (Option.bind_some _ _).symm.trans H; rw [hy208]; with_reducible exact H2_) | (have H2_ := (Option.bind_some _ _).symm.trans H; with_reducible exact H2_) | with_reducible exact H | (rw [hy208]; exact H) | exact H
     have Ny208 := am hy208
     clear hy208
     have H' := am H
     clear H
     have p204 : 0 ≤ (x23_2 : Int) := zD
     have q204 : x23_2 < (t201.length : Int) := zD
     obtain ⟨ad204, e204, hx204_0, hx204_1, hx204_2⟩ := at_T71 (Kd.R_reads' HO_21.out).2.2 x23_2 p204 q204
     cases e204
     replace p204 := eq_true p204
     replace q204 := eq_true q204
     go_wp2_with (first | ((with_reducible refine gate_dst (N := 6) rfl ?_); refine box_event ?hg (N := 6) ?hd (cs := #[.int .i64 0, .int .i64 0, .int .i64 0]) (t := 71) ?hr ?_; (case hd => rfl); (case hg => rfl); (case hr => first | (go_simp; done) | (go_simp; rfl)); intro gb205 hg w25 hbox hb; have n0_ := am (Kd.R_below (Kd.R_elderB (zR HO_3) gb205 (Nat.le_of_eq hg.symm)) hb); have n1_ := am (Kd.R_below (Kd.R_elderB (zR HO_21) gb205 (Nat.le_of_eq hg.symm)) hb); have n2_ := am (Bb6 zB hb); have n3_ := am (hbox); have n4_ := am ((by rw [hg]; exact (Bb5 zB) : w.heap.size ≤ gb205)); have n5_ := n4_; clear HO_3; clear HO_21; clear HB; have HO_3 := n0_; have HO_21 := n1_; have HB := n2_; have BK205 := n3_; have GW205 := n4_; have GE205 := n5_; clear n0_ n1_ n2_ n3_ n4_ n5_; clear hb hbox hg; have hcz26_0 : w25.cell? ⟨gb205, 0, none⟩ = some (.int .i64 0) := (kc BK205.out 0).trans rfl; have hcz26_1 : w25.cell? ⟨gb205, 1, none⟩ = some (.int .i64 0) := (kc BK205.out 1).trans rfl; have hcz26_2 : w25.cell? ⟨gb205, 2, none⟩ = some (.int .i64 0) := (kc BK205.out 2).trans rfl; have hfz26_0 := kf BK205.out 0; have hfz26_1 := kf BK205.out 1; have hfz26_2 := kf BK205.out 2) | ((with_reducible refine gate_callee (f := 97) rfl ?_); refine goesL_ (some 29) rfl rfl Try.func97 (by kernel_rfl) rfl #[.slice (some ad196) l0.length c0, .agg #[.int .i64 ((rd_T71 t201 x23_2).f0), .int .i64 ((rd_T71 t201 x23_2).f1), .int .i64 ((rd_T71 t201 x23_2).f2)]] rfl zL ?_; (with_reducible refine (impl_Cube_97.calls k2 _ _ l0 ((rd_T71 t201 x23_2).f0) ((rd_T71 t201 x23_2).f1) ((rd_T71 t201 x23_2).f2) true _ ?side1 ?side2 A14.out).mono ?_); (case side1 => exact Kd.C_below HR0.out (by repeat (first | (with_reducible first | exact HB.out | apply Bb1 | apply Bb2 | apply Bb3 | refine Bb4 ?_ GE205.out) | exact HB.out))); (case side2 => exact HC0.out); rintro e w27 ⟨rfl, hb⟩; refine ⟨_, rfl, ?_⟩; have n0_ := am (Kd.R_below (by (with_reducible repeat (first | apply Kd.R_alloc | apply Kd.R_drewN | apply Kd.R_drew)); exact (Kd.R_mono (Kd.R_far (p := ⟨gb205, 2, none⟩) (Kd.R_far (p := ⟨gb205, 1, none⟩) (Kd.R_far (p := ⟨gb205, 0, none⟩) (Kd.R_mono HO_3.out (fun k_ hk => (⟨hk, hk.2⟩ : _ ∧ k_ ≠ gb205))) (fun _ hk => hk.2) (.int .i64 ((rd_T71 t201 x23_2).f0))) (fun _ hk => hk.2) (.int .i64 ((rd_T71 t201 x23_2).f1))) (fun _ hk => hk.2) (.int .i64 ((rd_T71 t201 x23_2).f2))) (fun _ h_ => h_.1))) hb); have n1_ := am (Kd.R_below (by (with_reducible repeat (first | apply Kd.R_alloc | apply Kd.R_drewN | apply Kd.R_drew)); exact (Kd.R_mono (Kd.R_far (p := ⟨gb205, 2, none⟩) (Kd.R_far (p := ⟨gb205, 1, none⟩) (Kd.R_far (p := ⟨gb205, 0, none⟩) (Kd.R_mono HO_21.out (fun k_ hk => (⟨hk, hk.2⟩ : _ ∧ k_ ≠ gb205))) (fun _ hk => hk.2) (.int .i64 ((rd_T71 t201 x23_2).f0))) (fun _ hk => hk.2) (.int .i64 ((rd_T71 t201 x23_2).f1))) (fun _ hk => hk.2) (.int .i64 ((rd_T71 t201 x23_2).f2))) (fun _ h_ => h_.1))) hb); have n2_ := am (Bk4 (g := gb205) (o := .cells #[.int .i64 ((rd_T71 t201 x23_2).f0), .int .i64 ((rd_T71 t201 x23_2).f1), .int .i64 ((rd_T71 t201 x23_2).f2)] 71 (0, 0)) (by (with_reducible repeat (first | refine Bk2 ?_ _ | refine Bk3 ?_ | refine Bk1 ?_ _)); refine blk_put (cs := #[.int .i64 ((rd_T71 t201 x23_2).f0), .int .i64 ((rd_T71 t201 x23_2).f1), .int .i64 0]) ?_ 2 _ rfl; (with_reducible repeat (first | refine Bk2 ?_ _ | refine Bk3 ?_ | refine Bk1 ?_ _)); refine blk_put (cs := #[.int .i64 ((rd_T71 t201 x23_2).f0), .int .i64 0, .int .i64 0]) ?_ 1 _ rfl; (with_reducible repeat (first | refine Bk2 ?_ _ | refine Bk3 ?_ | refine Bk1 ?_ _)); refine blk_put (cs := #[.int .i64 0, .int .i64 0, .int .i64 0]) ?_ 0 _ rfl; (with_reducible repeat (first | refine Bk2 ?_ _ | refine Bk3 ?_ | refine Bk1 ?_ _)); exact BK205.out) hb); have n3_ := am (Bb6 (by repeat (first | (with_reducible first | exact HB.out | apply Bb1 | apply Bb2 | apply Bb3 | refine Bb4 ?_ GE205.out) | exact HB.out)) hb); clear HO_3; clear HO_21; clear BK205; clear HB; have HO_3 := n0_; have HO_21 := n1_; have BK205 := n2_; have HB := n3_; clear n0_ n1_ n2_ n3_; (try clear hb); (try clear hb2); (try clear hk); (try clear hi); have hcz28_0 : w27.cell? ⟨gb205, 0, none⟩ = some (.int .i64 ((rd_T71 t201 x23_2).f0)) := (kc BK205.out 0).trans rfl; have hcz28_1 : w27.cell? ⟨gb205, 1, none⟩ = some (.int .i64 ((rd_T71 t201 x23_2).f1)) := (kc BK205.out 1).trans rfl; have hcz28_2 : w27.cell? ⟨gb205, 2, none⟩ = some (.int .i64 ((rd_T71 t201 x23_2).f2)) := (kc BK205.out 2).trans rfl; have hfz28_0 := kf BK205.out 0; have hfz28_1 := kf BK205.out 1; have hfz28_2 := kf BK205.out 2; obtain ⟨Ao29, co29, eo29⟩ := Kd.R_slice HO_3.out; subst eo29) | (go_at_call 97; (with_reducible refine (impl_Cube_97.calls k2 _ _ x3_2 ((rd_T71 t201 x23_2).f0) ((rd_T71 t201 x23_2).f1) ((rd_T71 t201 x23_2).f2) false _ ?side1 ?side2 A16.out).mono ?_); (case side1 => repeat (first | exact (Kd.R_reads' HO_3.out).2.2 | (with_reducible refine Kd.C_alloc ?_ _) | (with_reducible refine Kd.C_drewN ?_ _) | (with_reducible refine Kd.C_drew ?_))); (case side2 => exact (Kd.R_reads' HO_3.out).2.1); rintro e w30 ⟨rfl, hb⟩; have n0_ := am (Kd.R_below (zR HO_3) hb); have n1_ := am (Kd.R_below (zR HO_21) hb); have n2_ := am (Bk4 (g := gb205) (o := .cells #[.int .i64 ((rd_T71 t201 x23_2).f0), .int .i64 ((rd_T71 t201 x23_2).f1), .int .i64 ((rd_T71 t201 x23_2).f2)] 71 (0, 0)) (zK BK205) hb); have n3_ := am (Bb6 (by repeat (first | (with_reducible first | exact HB.out | apply Bb1 | apply Bb2 | apply Bb3 | refine Bb4 ?_ GE205.out) | exact HB.out)) hb); clear HO_3; clear HO_21; clear BK205; clear HB; have HO_3 := n0_; have HO_21 := n1_; have BK205 := n2_; have HB := n3_; clear n0_ n1_ n2_ n3_; (try clear hb); (try clear hb2); (try clear hk); (try clear hi); have hcz31_0 : w30.cell? ⟨gb205, 0, none⟩ = some (.int .i64 ((rd_T71 t201 x23_2).f0)) := (kc BK205.out 0).trans rfl; have hcz31_1 : w30.cell? ⟨gb205, 1, none⟩ = some (.int .i64 ((rd_T71 t201 x23_2).f1)) := (kc BK205.out 1).trans rfl; have hcz31_2 : w30.cell? ⟨gb205, 2, none⟩ = some (.int .i64 ((rd_T71 t201 x23_2).f2)) := (kc BK205.out 2).trans rfl; have hfz31_0 := kf BK205.out 0; have hfz31_1 := kf BK205.out 1; have hfz31_2 := kf BK205.out 2) | ((with_reducible refine gate_builtin (b := .append) (xs := #[.tmp 36, .tmp 38]) rfl ?_); at_builtin; refine Kd.R_append k71 (w0 := w) w.heap.size rfl (.tmp 36) (.tmp 38) 36 71 (.agg #[(.int .i64 0), (.int .i64 0), (.int .i64 0)]) 24 rfl Try.underlying36 info71 rfl (by decide) (by omega) (.slice Ao29 x3_2.length co29) x3_2 (⟨(rd_T71 t201 x23_2).f0, (rd_T71 t201 x23_2).f1, (rd_T71 t201 x23_2).f2⟩ : S71) [.int .i64 ((rd_T71 t201 x23_2).f0), .int .i64 ((rd_T71 t201 x23_2).f1), .int .i64 ((rd_T71 t201 x23_2).f2)] (fun k_ => some k_ ≠ (.slice (some ad204) t201.length co10 : Value).ownBlock ∧ k_ ≠ gb205) (fun _ => False) rfl rfl ?aP (fun _ hk => hk.elim) ?aF ?aO ?aB ?aS ?aL ?_; (case aP => exact k71_mkM _ _ _ (⟨(rd_T71 t201 x23_2).f0, (rd_T71 t201 x23_2).f1, (rd_T71 t201 x23_2).f2⟩ : S71)); (case aB => exact (by repeat (first | (with_reducible first | exact HB.out | apply Bb1 | apply Bb2 | apply Bb3 | refine Bb4 ?_ GE205.out) | exact HB.out))); (case aF => exact (fun k_ hk => ⟨Kd.fresh' (Kd.R_lt (zR HO_21)) k_ hk, Kd.freshB (g := gb205) (o := .cells #[.int .i64 ((rd_T71 t201 x23_2).f0), .int .i64 ((rd_T71 t201 x23_2).f1), .int .i64 ((rd_T71 t201 x23_2).f2)] 71 (0, 0)) (zK BK205) k_ hk⟩)); (case aO => exact (zR HO_3)); (case aS => exact (Bb5 (by repeat (first | (with_reducible first | exact HB.out | apply Bb1 | apply Bb2 | apply Bb3 | refine Bb4 ?_ GE205.out) | exact HB.out)))); (case aL => have := LMc24.out; omega); intro v209 w32 ho hb hg hat; rw [← Ny208.out] at ho; have n0_ := am (Kd.R_after (ok := (fun k_ => k_ ≠ gb205)) (by (with_reducible repeat (first | apply Kd.R_alloc | apply Kd.R_drewN | apply Kd.R_drew)); exact Kd.R_mono HO_21.out (fun _ hk => ⟨hk.2, hk.1⟩)) hg hat); have n1_ := am (blk_grown (g := gb205) (o := .cells #[.int .i64 ((rd_T71 t201 x23_2).f0), .int .i64 ((rd_T71 t201 x23_2).f1), .int .i64 ((rd_T71 t201 x23_2).f2)] 71 (0, 0)) (zK BK205) hg (Kd.R_away HO_3.out (fun _ hk => hk.2))); have n2_ := am (hb); have n3_ := am (ho); clear HO_21; clear BK205; clear HB; clear HO_3; have HO_21 := n0_; have BK205 := n1_; have HB := n2_; have HO210 := n3_; clear n0_ n1_ n2_ n3_; clear ho hb hg hat))
     go_roundg k2
     case measure => have := HK1.out; have := HK2.out; omega
     case rel => exact ⟨(y208), (wrap64 (x23_2 + 1)), zS, H', ⟨by have := HK1.out; have := HK2.out; omega⟩, ⟨by (with_reducible repeat (first | apply Kd.R_alloc | apply Kd.R_drewN | apply Kd.R_drew)); exact Kd.R_mono HO210.out (fun _ hk => hk.1)⟩, ⟨by (with_reducible repeat (first | apply Kd.R_alloc | apply Kd.R_drewN | apply Kd.R_drew)); exact Kd.R_mono HO_21.out (fun _ hk => hk.2)⟩, ⟨by repeat (first | (with_reducible first | exact HB.out | apply Bb1 | apply Bb2 | apply Bb3 | refine Bb4 ?_ GE205.out) | exact HB.out)⟩⟩

end Go.Proofs.Ytjgnlakgojookaa.Q
