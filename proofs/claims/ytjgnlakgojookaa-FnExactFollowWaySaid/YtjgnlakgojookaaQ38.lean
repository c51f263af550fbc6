/- Written by a program of this session (wip/tools/pp.py) out of the translation, with the kit's printer. -/
import Derived.Test.YtjgnlakgojookaaQ0
import Derived.Test.YtjgnlakgojookaaQ7
import Derived.Test.YtjgnlakgojookaaQ34
import Derived.Test.YtjgnlakgojookaaQ35
namespace Go.Proofs.Ytjgnlakgojookaa.Q
open Go.RowKit Go.Proofs.YtjgnlakgojookaaW.PrintWords Go.Proofs.YtjgnlakgojookaaW.PrintLast Go.Proofs.YtjgnlakgojookaaW.PrintMore
attribute [local go_sem] max2_int min2_int max_two min_two max_three min_three max_four min_four
set_option linter.unusedVariables false
set_option linter.unusedSimpArgs false

/-! ### spec_FollowWay: function 42 -/
abbrev spec_FollowWay.m0 : Array Bool := #[z',z',z',z',z',z',z',z']
abbrev spec_FollowWay.m1 : Array Bool := #[z',o',z',z',z',z',z',z']
abbrev spec_FollowWay.m2 : Array Bool := #[z',o',o',z',z',z',z',z']
abbrev spec_FollowWay.m3 : Array Bool := #[z',o',o',o',z',z',z',z']
abbrev spec_FollowWay.m4 : Array Bool := #[z',o',o',o',o',z',z',z']
abbrev spec_FollowWay.m5 : Array Bool := #[o',o',o',o',o',z',z',z']
abbrev spec_FollowWay.m6 : Array Bool := #[o',o',o',o',o',o',z',z']
abbrev spec_FollowWay.m7 : Array Bool := #[o',o',o',o',o',o',o',z']
abbrev spec_FollowWay.m8 : Array Bool := #[o',o',o',o',o',o',o',o']
def spec_FollowWay.l0 : Nat → List Int → List (S71) → Int → List (List (S71)) → Option ((List (S71)) × Int)
 | 0, _, _, _, _ => none
 | k + 1, x1, x6, x7, x477000 => if x7 < (x1.length : Int) then (if 0 ≤ x7 then ((spec_l27Possible.f k x477000 x6 (rd x1 x7)).bind fun t482 => (if t482 = true then ((spec_l27After.f k x6 (rd x1 x7)).bind fun t484 => (spec_FollowWay.l0 k x1 t484 (wrap64 (x7 + 1)) x477000)) else (some (([] : List (S71)), 5)))) else (none)) else (some (x6, 0))
def spec_FollowWay.f (k : Nat) (l0_0 : List (List (S71))) (l1 : List Int) : Option ((List (S71)) × Int) := (spec_IsAssembly.f k l0_0).bind fun t477 => (if t477 = true then (if 0 ≤ (l0_0.length : Int) then (if ((l0_0.length : Int) : Int).toNat ≤ 11728124029610 then (spec_FollowWay.l0 k l1 (List.replicate ((l0_0.length : Int) : Int).toNat z71) 0 l0_0) else (none)) else (none)) else (some (([] : List (S71)), 1)))
theorem spec_FollowWay.mono_l : ∀ k, (∀ y0 y1 y2 y3, LeO (spec_FollowWay.l0 k y0 y1 y2 y3) (spec_FollowWay.l0 (k + 1) y0 y1 y2 y3))
 | 0 => fun _ _ _ _ r h => by simp [spec_FollowWay.l0] at h
 | k + 1 => by
  have ih0 := spec_FollowWay.mono_l k
  ·intro y0 y1 y2 y3
   unfold spec_FollowWay.l0
   repeat' first
   | (with_reducible exact ih0 _ _ _ _)
   | (with_reducible exact spec_IsAssembly.mono _ _)
   | (with_reducible exact spec_l27After.mono _ _ _)
   | (with_reducible exact spec_l27Possible.mono _ _ _ _)
   | (with_reducible exact LeO.refl _)
   | (with_reducible exact LeO.none _)
   | (with_reducible refine LeO.ite ?_ ?_)
   | (with_reducible refine LeO.bind ?_ (fun _ => ?_))
   | exact ih0 _ _ _ _
   | exact spec_IsAssembly.mono _ _
   | exact spec_l27After.mono _ _ _
   | exact spec_l27Possible.mono _ _ _ _
   | exact LeO.none _
   | refine LeO.ite ?_ ?_
   | refine LeO.bind ?_ (fun _ => ?_)
theorem spec_FollowWay.mono : ∀ a0 a1 k, LeO (spec_FollowWay.f k a0 a1) (spec_FollowWay.f (k + 1) a0 a1) := by
 intro a0 a1 k
 have ih0 := spec_FollowWay.mono_l k
 unfold spec_FollowWay.f
 repeat' first
   | (with_reducible exact ih0 _ _ _ _)
   | (with_reducible exact spec_IsAssembly.mono _ _)
   | (with_reducible exact spec_l27After.mono _ _ _)
   | (with_reducible exact spec_l27Possible.mono _ _ _ _)
   | (with_reducible exact LeO.refl _)
   | (with_reducible exact LeO.none _)
   | (with_reducible refine LeO.ite ?_ ?_)
   | (with_reducible refine LeO.bind ?_ (fun _ => ?_))
   | exact ih0 _ _ _ _
   | exact spec_IsAssembly.mono _ _
   | exact spec_l27After.mono _ _ _
   | exact spec_l27Possible.mono _ _ _ _
   | exact LeO.none _
   | refine LeO.ite ?_ ?_
   | refine LeO.bind ?_ (fun _ => ?_)
def spec_FollowWay.T7 : Bool × List (List Nat × List Nat) := (true, [([], []), ([], []), ([], []), ([], []), ([2, 3], [2, 3]), ([4], [4]), ([0, 1, 5], [0, 1, 5]), ([6], [6])])
def spec_FollowWay.B7 : List Nat := [0, 0, 0, 0, 12, 28, 63, 127]
theorem spec_FollowWay.tab7 : rtab .any (opsOf Try.f42 7) = spec_FollowWay.T7 := by kernel_rfl
theorem spec_FollowWay.bits7 : waitsOk spec_FollowWay.T7.2 spec_FollowWay.B7 = true := by kernel_rfl
set_option maxHeartbeats 8000000 in
set_option maxRecDepth 100000 in
theorem spec_FollowWay.calls (k : Nat) (A0_0 : Option Addr) (c0_0 : Nat) (l0_0 : List (List (S71))) (A1 : Option Addr) (c1 : Nat) (l1 : List Int) (r1 : List (S71)) (r2 : Int) (w : World) (hr0_0 : Kd.C (Kd.slice 71 k71) w A0_0 l0_0.length l0_0) (hc0_0 : l0_0.length ≤ c0_0) (hr1 : Kd.C (Kd.int .i64) w A1 l1.length l1) (hc1 : l1.length ≤ c1) (h : spec_FollowWay.f k l0_0 l1 = some (r1, r2)) :
  Calls Try.prog 42 #[.agg #[.slice A0_0 l0_0.length c0_0], .slice A1 l1.length c1] w fun e w' => ∃ v0_ : Value, e = .returned (.tuple #[v0_, .int .i64 r2]) ∧ Kd.R k71 71 w' w.heap.size (fun _ => True) v0_ r1 ∧ Below w.heap.size w w' := by
 have hu29 := Try.underlying29
 have HR0_0 := am hr0_0
 have HC0_0 := am hc0_0
 clear hr0_0 hc0_0
 have HR1 := am hr1
 have HC1 := am hc1
 clear hr1 hc1
 have HB := am (Below.refl w.heap.size w)
 have H : ((spec_IsAssembly.f k l0_0).bind fun t477 => (if t477 = true then (if 0 ≤ (l0_0.length : Int) then (if ((l0_0.length : Int) : Int).toNat ≤ 11728124029610 then (spec_FollowWay.l0 k l1 (List.replicate ((l0_0.length : Int) : Int).toNat z71) 0 l0_0) else (none)) else (none)) else (some (([] : List (S71)), 1)))) = some (r1, r2) := h
 clear h
 replace H := ob H
 obtain ⟨t477, A30, H⟩ := H
 (try dsimp only at H)
 have A3 := am A30
 clear A30
 by_cases c4 : t477 = true
 rotate_left
 ·replace c4 := ef c4
  subst c4
  have H1 : (some (([] : List (S71)), 1)) = some (r1, r2) := by first | (rw [if_neg (show ¬ (false = true) by decide)] at H; exact H) | rfl
  clear H
  have H := H1
  clear H1
  simp only [Option.some.injEq, Prod.mk.injEq] at H
  obtain ⟨rfl, rfl⟩ := H
  go_enter Try.func42, Try.ntmps42
  go_wp2_with (first | ((with_reducible refine gate_dst (N := 2) rfl ?_); refine box_event ?hg (N := 2) ?hd (cs := #[.slice A0_0 l0_0.length c0_0]) (t := 29) ?hr ?_; (case hd => rfl); (case hg => rfl); (case hr => first | (go_simp; done) | (go_simp; rfl)); intro gb476 hg w25 hbox hb; have n0_ := am (Bb6 zB hb); have n1_ := am (hbox); have n2_ := am ((by rw [hg]; exact (Bb5 zB) : w.heap.size ≤ gb476)); have n3_ := n2_; clear HB; have HB := n0_; have BK476 := n1_; have GW476 := n2_; have GE476 := n3_; clear n0_ n1_ n2_ n3_; clear hb hbox hg; have hcz26_0 : w25.cell? ⟨gb476, 0, none⟩ = some (.slice A0_0 l0_0.length c0_0) := (kc BK476.out 0).trans rfl; have hfz26_0 := kf BK476.out 0) | ((with_reducible refine gate_callee (f := 14) rfl ?_); refine goesL_ (some 9) rfl rfl Try.func14 (by kernel_rfl) rfl #[.agg #[.slice A0_0 l0_0.length c0_0]] rfl zL ?_; (with_reducible refine (spec_IsAssembly.calls k _ _ l0_0 false _ ?side1 ?side2 A3.out).mono ?_); (case side1 => repeat (first | exact (Kd.C_below HR0_0.out HB.out) | (with_reducible refine Kd.C_alloc ?_ _) | (with_reducible refine Kd.C_drewN ?_ _) | (with_reducible refine Kd.C_drew ?_))); (case side2 => exact HC0_0.out); rintro e w27 ⟨rfl, hb⟩; refine ⟨_, rfl, ?_⟩; have n0_ := am (Bk4 (g := gb476) (o := .cells #[.slice A0_0 l0_0.length c0_0] 29 (0, 0)) (zK BK476) hb); have n1_ := am (Bb6 (by repeat (first | (with_reducible first | exact HB.out | apply Bb1 | apply Bb2 | apply Bb3 | refine Bb4 ?_ GE476.out) | exact HB.out)) hb); clear BK476; clear HB; have BK476 := n0_; have HB := n1_; clear n0_ n1_; (try clear hb); (try clear hb2); (try clear hk); (try clear hi)))
  go_ret2
  exact ⟨_, zE, by first | exact Kd.R_nil _ _ _ _ _ | exact Kd.N_nil _ _ _ _ _ | exact Kd.V_nil _ _ _ _ _ | exact Kd.Q_nil _ _ _ _ _ | exact Kd.S_nil _ _ _ _ _, by repeat (first | (with_reducible first | exact HB.out | apply Bb1 | apply Bb2 | apply Bb3 | refine Bb4 ?_ GE476.out) | exact HB.out)⟩
 subst c4
 have H1 : (if 0 ≤ (l0_0.length : Int) then (if ((l0_0.length : Int) : Int).toNat ≤ 11728124029610 then (spec_FollowWay.l0 k l1 (List.replicate ((l0_0.length : Int) : Int).toNat z71) 0 l0_0) else (none)) else (none)) = some (r1, r2) := by first | (rw [if_pos rfl] at H; exact H) | rfl
 clear H
 have H := H1
 clear H1
 by_cases c5 : 0 ≤ (l0_0.length : Int)
 rotate_left
 ·rw [if_neg c5] at H
  exact absurd H (by simp)
 rw [if_pos c5] at H
 have c5b0 := eq_true c5
 have c5b1 : decide (0 ≤ (l0_0.length : Int)) = true := decide_eq_true c5
 clear c5
 by_cases c6 : ((l0_0.length : Int) : Int).toNat ≤ 11728124029610
 rotate_left
 ·rw [if_neg c6] at H
  exact absurd H (by simp)
 rw [if_pos c6] at H
 have c6b0 := eq_true c6
 have c6b1 : decide (((l0_0.length : Int) : Int).toNat ≤ 11728124029610) = true := decide_eq_true c6
 clear c6
 obtain ⟨y478, hy478⟩ : ∃ y_ : List (S71), y_ = (List.replicate ((l0_0.length : Int) : Int).toNat z71) := ⟨_, rfl⟩
 replace H : (spec_FollowWay.l0 k l1 y478 0 l0_0) = some (r1, r2) := by first | (rw [hy478]; with_reducible exact H) | (have H2_ := (Option.bind_some _ _).symm.trans H; rw [hy478]; with_reducible exact H2_) | (have H2_ := (Option.bind_some _ _).symm.trans H; with_reducible exact H2_) | with_reducible exact H | (rw [hy478]; exact H) | exact H
 have Ny478 := am hy478
 clear hy478
 have H' := am H
 clear H
 go_enter Try.func42, Try.ntmps42
 go_wp2_with (first | ((with_reducible refine gate_dst (N := 2) rfl ?_); refine box_event ?hg (N := 2) ?hd (cs := #[.slice A0_0 l0_0.length c0_0]) (t := 29) ?hr ?_; (case hd => rfl); (case hg => rfl); (case hr => first | (go_simp; done) | (go_simp; rfl)); intro gb476 hg w7 hbox hb; have n0_ := am (Bb6 zB hb); have n1_ := am (hbox); have n2_ := am ((by rw [hg]; exact (Bb5 zB) : w.heap.size ≤ gb476)); have n3_ := n2_; clear HB; have HB := n0_; have BK476 := n1_; have GW476 := n2_; have GE476 := n3_; clear n0_ n1_ n2_ n3_; clear hb hbox hg; have hcz8_0 : w7.cell? ⟨gb476, 0, none⟩ = some (.slice A0_0 l0_0.length c0_0) := (kc BK476.out 0).trans rfl; have hfz8_0 := kf BK476.out 0) | ((with_reducible refine gate_callee (f := 14) rfl ?_); refine goesL_ (some 9) rfl rfl Try.func14 (by kernel_rfl) rfl #[.agg #[.slice A0_0 l0_0.length c0_0]] rfl zL ?_; (with_reducible refine (spec_IsAssembly.calls k _ _ l0_0 true _ ?side1 ?side2 A3.out).mono ?_); (case side1 => repeat (first | exact (Kd.C_below HR0_0.out HB.out) | (with_reducible refine Kd.C_alloc ?_ _) | (with_reducible refine Kd.C_drewN ?_ _) | (with_reducible refine Kd.C_drew ?_))); (case side2 => exact HC0_0.out); rintro e w9 ⟨rfl, hb⟩; refine ⟨_, rfl, ?_⟩; have n0_ := am (Bk4 (g := gb476) (o := .cells #[.slice A0_0 l0_0.length c0_0] 29 (0, 0)) (zK BK476) hb); have n1_ := am (Bb6 (by repeat (first | (with_reducible first | exact HB.out | apply Bb1 | apply Bb2 | apply Bb3 | refine Bb4 ?_ GE476.out) | exact HB.out)) hb); clear BK476; clear HB; have BK476 := n0_; have HB := n1_; clear n0_ n1_; (try clear hb); (try clear hb2); (try clear hk); (try clear hi); have hcz10_0 : w9.cell? ⟨gb476, 0, none⟩ = some (.slice A0_0 l0_0.length c0_0) := (kc BK476.out 0).trans rfl; have hfz10_0 := kf BK476.out 0) | ((with_reducible refine gate_dst (N := 14) rfl ?_); refine Kd.R_make k71 _ 71 rfl (N := 14) rfl 36 _ _ rfl (l0_0.length : Int) rfl rfl Try.underlying36 (.agg #[(.int .i64 0), (.int .i64 0), (.int .i64 0)]) 24 info71 rfl (by decide) (by omega) z71 (ok := fun _ => True) (okp := fun _ => True) (k71_mkM _ _ _ z71 ) (fun _ hk => hk) trivial (zD) (Nat.le_trans (Nat.mul_le_mul_right _ (zD : (l0_0.length : Int).toNat ≤ 11728124029610)) (by omega)) (Below.refl _ _) (Nat.le_refl _) ?_; intro v479 w11 ho12 hb hg_ hnew_; clear hg_ hnew_; (first | rw [← Ny478.out] at ho12 | (simp only [Int.reduceToNat] at ho12; rw [← Ny478.out] at ho12)); have n0_ := am (Kd.R_lower ho12 (Bb5 (by repeat (first | (with_reducible first | exact HB.out | apply Bb1 | apply Bb2 | apply Bb3 | refine Bb4 ?_ GE476.out) | exact HB.out)))); have n1_ := am (Bk4 (g := gb476) (o := .cells #[.slice A0_0 l0_0.length c0_0] 29 (0, 0)) (zK BK476) hb); have n2_ := am (Bb6 (by repeat (first | (with_reducible first | exact HB.out | apply Bb1 | apply Bb2 | apply Bb3 | refine Bb4 ?_ GE476.out) | exact HB.out)) hb); clear BK476; clear HB; have HO480 := n0_; have BK476 := n1_; have HB := n2_; clear n0_ n1_ n2_; clear hb ho12))
 go_loopg [6, 7] k (fun kq v6 v7 w' => ∃ (x6_1 : List (S71)) (x7_1 : Int), v7 = .int .i64 x7_1 ∧ Aside0 (spec_FollowWay.l0 kq l1 x6_1 x7_1 l0_0 = some (r1, r2)) ∧ Aside0 (kq ≤ k) ∧ Aside0 (Kd.R k71 71 w' w.heap.size (fun _ => True) v6 x6_1) ∧ Aside0 (w'.heap[gb476]? = some (.cells #[(.slice A0_0 l0_0.length c0_0)] 29 (0, 0))) ∧ Aside0 (Below w.heap.size w w'))
 case atStart => exact ⟨(y478), (0), zS, H', ⟨Nat.le_refl _⟩, ⟨zR HO480⟩, ⟨zK BK476⟩, ⟨by repeat (first | (with_reducible first | exact HB.out | apply Bb1 | apply Bb2 | apply Bb3 | refine Bb4 ?_ GE476.out) | exact HB.out)⟩⟩
 case round =>
  clear H'
  try clear c1
  try clear p2
  try clear c4
  try clear c5
  try clear c5b0
  try clear c5b1
  try clear c6
  try clear c6b0
  try clear c6b1
  try clear hcz10_0
  try clear hcz8_0
  try clear hfz10_0
  try clear hfz8_0
  obtain ⟨x6_1, x7_1, rfl, HA, HK1, HO_6, BK476, HB⟩ := hrel
  cases gk with
  | zero => exact absurd HA.out (by simp [spec_FollowWay.l0])
  | succ k1 =>
   have H := HA.out
   clear HA
   simp only [spec_FollowWay.l0] at H
   by_cases c13 : x7_1 < (l1.length : Int)
   rotate_left
   ·rw [if_neg c13] at H
    have c13b0 : decide (x7_1 < (l1.length : Int)) = false := decide_eq_false c13
    clear c13
    simp only [Option.some.injEq, Prod.mk.injEq] at H
    obtain ⟨rfl, rfl⟩ := H
    go_wp2
    go_ret2
    exact ⟨_, zE, by (with_reducible repeat (first | apply Kd.R_alloc | apply Kd.R_drewN | apply Kd.R_drew)); exact HO_6.out, by repeat (first | (with_reducible first | exact HB.out | apply Bb1 | apply Bb2 | apply Bb3 | refine Bb4 ?_ GE476.out) | exact HB.out)⟩
   rw [if_pos c13] at H
   have c13b0 : decide (x7_1 < (l1.length : Int)) = true := decide_eq_true c13
   clear c13
   by_cases c14 : 0 ≤ x7_1
   rotate_left
   ·rw [if_neg c14] at H
    exact absurd H (by simp)
   rw [if_pos c14] at H
   have c14b0 : decide (0 ≤ x7_1) = true := decide_eq_true c14
   clear c14
   replace H := ob H
   obtain ⟨t482, A150, H⟩ := H
   (try dsimp only at H)
   have A15 := am A150
   clear A150
   by_cases c16 : t482 = true
   rotate_left
   ·replace c16 := ef c16
    subst c16
    have H1 : (some (([] : List (S71)), 5)) = some (r1, r2) := by first | (rw [if_neg (show ¬ (false = true) by decide)] at H; exact H) | rfl
    clear H
    have H := H1
    clear H1
    simp only [Option.some.injEq, Prod.mk.injEq] at H
    obtain ⟨rfl, rfl⟩ := H
    try go_wp2
    have n0_ := am (Kd.R_drew HO_6.out)
    have n1_ := am (Bk3 BK476.out)
    have n2_ := am (Bb3 HB.out)
    clear HO_6
    clear BK476
    clear HB
    have HO_6 := n0_
    have BK476 := n1_
    have HB := n2_
    clear n0_ n1_ n2_
    have p481 : 0 ≤ (x7_1 : Int) := zD
    have q481 : x7_1 < (l1.length : Int) := zD
    obtain ⟨ad481, e481, hx481_0⟩ := Kd.at_int HR1.out x7_1 p481 q481
    have hw481_0 := hx481_0
    cases e481
    replace hx481_0 := pc HB.out hx481_0
    replace p481 := eq_true p481
    replace q481 := eq_true q481
    obtain ⟨Ao23, co23, eo23⟩ := Kd.R_slice HO_6.out
    (first | subst eo23 | (injection eo23 with f1_ f2_ f3_; have f4_ := f1_.symm; have f5_ := f3_.symm; clear f1_ f2_ f3_; subst f4_; subst f5_))
    refine start_ (n := 8) (S := fun w' => w'.cell? ⟨gb476, 0, none⟩ = some (.slice A0_0 l0_0.length c0_0) ∧ w'.cell? (ad481.add (x7_1).toNat) = some (.int .i64 (rd l1 x7_1))) (ds := []) spec_FollowWay.m0 (by kernel_rfl) rfl rfl ⟨(kc BK476.out 0).trans rfl, (pc HB.out hw481_0)⟩ (fun hHeld => ?_); refine with_tabW spec_FollowWay.tab7 spec_FollowWay.bits7 (fun HT_ HW_ => ?_)
    generalize wr.drew = w22 at HO_6 BK476 HB hx481_0 hHeld ⊢
    refine pure_ (i := 1) (N := some 22) (v := ?_) (a' := ?_) spec_FollowWay.m1 rfl rfl zA (fun _ _ _ h => h) (Or.inl ⟨by rfl, ?_⟩) ?_ ?_
    rotate_left
    ·intro w'
     go_simp
     with_reducible rfl
    rotate_left
    ·exact zP
    refine pure_ (i := 2) (N := some 23) (v := ?_) (a' := ?_) spec_FollowWay.m2 rfl rfl zA (fun _ _ _ h => h) (Or.inl ⟨by rfl, ?_⟩) ?_ ?_
    rotate_left
    ·intro w'
     go_simp
     with_reducible rfl
    rotate_left
    ·exact zP
    refine pure_ (i := 3) (N := some 24) (v := ?_) (a' := ?_) spec_FollowWay.m3 rfl rfl zA (fun _ _ _ h => h) (Or.inl ⟨by rfl, ?_⟩) ?_ ?_
    rotate_left
    ·intro w'
     go_simp
     with_reducible rfl
    rotate_left
    ·exact zP
    refine pure_ (i := 4) (N := some 25) (v := ?_) (a' := ?_) spec_FollowWay.m4 rfl rfl zA (fun _ _ _ h => h) (Or.inl ⟨by rfl, ?_⟩) ?_ ?_
    rotate_left
    ·intro w'
     go_simp
     with_reducible rfl
    rotate_left
    ·exact zP
    refine take_ (i := 0) (N := some 21) (v := ?_) (a' := ?_) spec_FollowWay.m5 rfl rfl (take_ofW HT_.out HW_.out (by kernel_rfl)) (fun _ _ _ h => h) (Or.inl ⟨by rfl, ?_⟩) hHeld ?_ ?_
    rotate_left
    ·rintro w' ⟨s0, s1⟩
     go_simp
     with_reducible rfl
    rotate_left
    ·exact zP
    refine take_ (i := 5) (N := some 26) (v := ?_) (a' := ?_) spec_FollowWay.m6 rfl rfl (take_ofW HT_.out HW_.out (by kernel_rfl)) (fun _ _ _ h => h) (Or.inl ⟨by rfl, ?_⟩) hHeld ?_ ?_
    rotate_left
    ·rintro w' ⟨s0, s1⟩
     go_simp
     with_reducible rfl
    rotate_left
    ·exact zP
    refine one_ (i := 6) (N := some 27) spec_FollowWay.m7 rfl rfl (one_of HT_.out (by kernel_rfl)) (by decide) (fun K hK => ?_)
    refine goes_ Try.func79 (by kernel_rfl) rfl #[.agg #[.slice A0_0 l0_0.length c0_0], .slice Ao23 x6_1.length co23, .int .i64 (rd l1 x7_1)] (by rfl) rfl rfl zL ?_
    with_reducible refine (spec_l27Possible.calls k1 _ _ l0_0 _ _ x6_1 (rd l1 x7_1) false _ ?side1 ?side2 ?side3 ?side4 A15.out).mono ?_
    (case side1 => repeat (first | exact (Kd.C_below HR0_0.out HB.out) | (with_reducible refine Kd.C_alloc ?_ _) | (with_reducible refine Kd.C_drewN ?_ _) | (with_reducible refine Kd.C_drew ?_)))
    (case side2 => exact HC0_0.out)
    (case side3 => repeat (first | exact (Kd.R_reads' HO_6.out).2.2 | (with_reducible refine Kd.C_alloc ?_ _) | (with_reducible refine Kd.C_drewN ?_ _) | (with_reducible refine Kd.C_drew ?_)))
    (case side4 => exact (Kd.R_reads' HO_6.out).2.1)
    rintro e w24 ⟨rfl, hb⟩
    refine ⟨_, rfl, ?_⟩
    have n0_ := am (Kd.R_below (zR HO_6) hb)
    have n1_ := am (Bk4 (g := gb476) (o := .cells #[.slice A0_0 l0_0.length c0_0] 29 (0, 0)) (zK BK476) hb)
    have n2_ := am (Bb6 (by repeat (first | (with_reducible first | exact HB.out | apply Bb1 | apply Bb2 | apply Bb3 | refine Bb4 ?_ GE476.out) | exact HB.out)) hb)
    clear HO_6
    clear BK476
    clear HB
    have HO_6 := n0_
    have BK476 := n1_
    have HB := n2_
    clear n0_ n1_ n2_
    (try clear hb)
    (try clear hb2)
    (try clear hk)
    (try clear hi)
    refine hK.out _ _ ⟨(kc BK476.out 0).trans rfl, (pc HB.out hw481_0)⟩ (fun hHeld => ?_)
    clear hK K
    refine norm_ (a' := ?_) ?_ ?_
    rotate_left
    ·show Act.put _ (some 27) _ = _
     simp only [Act.put, sa, i64_w, i32_w]
     rfl
    refine pure_ (i := 7) (N := some 28) (v := ?_) (a' := ?_) spec_FollowWay.m8 rfl rfl zA (fun _ _ _ h => h) (Or.inl ⟨by rfl, ?_⟩) ?_ ?_
    rotate_left
    ·intro w'
     go_simp
     with_reducible rfl
    rotate_left
    ·exact zP
    refine done_ (done_of HT_.out (by kernel_rfl)) ?_
    try go_wp2
    go_ret2
    exact ⟨_, zE, by first | exact Kd.R_nil _ _ _ _ _ | exact Kd.N_nil _ _ _ _ _ | exact Kd.V_nil _ _ _ _ _ | exact Kd.Q_nil _ _ _ _ _ | exact Kd.S_nil _ _ _ _ _, by repeat (first | (with_reducible first | exact HB.out | apply Bb1 | apply Bb2 | apply Bb3 | refine Bb4 ?_ GE476.out) | exact HB.out)⟩
   subst c16
   have H1 : ((spec_l27After.f k1 x6_1 (rd l1 x7_1)).bind fun t484 => (spec_FollowWay.l0 k1 l1 t484 (wrap64 (x7_1 + 1)) l0_0)) = some (r1, r2) := by first | (rw [if_pos rfl] at H; exact H) | rfl
   clear H
   have H := H1
   clear H1
   replace H := ob H
   obtain ⟨t484, A170, H⟩ := H
   (try dsimp only at H)
   have A17 := am A170
   clear A170
   have H' := am H
   clear H
   try go_wp2
   have n0_ := am (Kd.R_drew HO_6.out)
   have n1_ := am (Bk3 BK476.out)
   have n2_ := am (Bb3 HB.out)
   clear HO_6
   clear BK476
   clear HB
   have HO_6 := n0_
   have BK476 := n1_
   have HB := n2_
   clear n0_ n1_ n2_
   have p481 : 0 ≤ (x7_1 : Int) := zD
   have q481 : x7_1 < (l1.length : Int) := zD
   obtain ⟨ad481, e481, hx481_0⟩ := Kd.at_int HR1.out x7_1 p481 q481
   have hw481_0 := hx481_0
   cases e481
   replace hx481_0 := pc HB.out hx481_0
   replace p481 := eq_true p481
   replace q481 := eq_true q481
   obtain ⟨Ao19, co19, eo19⟩ := Kd.R_slice HO_6.out
   (first | subst eo19 | (injection eo19 with f1_ f2_ f3_; have f4_ := f1_.symm; have f5_ := f3_.symm; clear f1_ f2_ f3_; subst f4_; subst f5_))
   refine start_ (n := 8) (S := fun w' => w'.cell? ⟨gb476, 0, none⟩ = some (.slice A0_0 l0_0.length c0_0) ∧ w'.cell? (ad481.add (x7_1).toNat) = some (.int .i64 (rd l1 x7_1))) (ds := []) spec_FollowWay.m0 (by kernel_rfl) rfl rfl ⟨(kc BK476.out 0).trans rfl, (pc HB.out hw481_0)⟩ (fun hHeld => ?_); refine with_tabW spec_FollowWay.tab7 spec_FollowWay.bits7 (fun HT_ HW_ => ?_)
   generalize wr.drew = w18 at HO_6 BK476 HB hx481_0 hHeld ⊢
   refine pure_ (i := 1) (N := some 22) (v := ?_) (a' := ?_) spec_FollowWay.m1 rfl rfl zA (fun _ _ _ h => h) (Or.inl ⟨by rfl, ?_⟩) ?_ ?_
   rotate_left
   ·intro w'
    go_simp
    with_reducible rfl
   rotate_left
   ·exact zP
   refine pure_ (i := 2) (N := some 23) (v := ?_) (a' := ?_) spec_FollowWay.m2 rfl rfl zA (fun _ _ _ h => h) (Or.inl ⟨by rfl, ?_⟩) ?_ ?_
   rotate_left
   ·intro w'
    go_simp
    with_reducible rfl
   rotate_left
   ·exact zP
   refine pure_ (i := 3) (N := some 24) (v := ?_) (a' := ?_) spec_FollowWay.m3 rfl rfl zA (fun _ _ _ h => h) (Or.inl ⟨by rfl, ?_⟩) ?_ ?_
   rotate_left
   ·intro w'
    go_simp
    with_reducible rfl
   rotate_left
   ·exact zP
   refine pure_ (i := 4) (N := some 25) (v := ?_) (a' := ?_) spec_FollowWay.m4 rfl rfl zA (fun _ _ _ h => h) (Or.inl ⟨by rfl, ?_⟩) ?_ ?_
   rotate_left
   ·intro w'
    go_simp
    with_reducible rfl
   rotate_left
   ·exact zP
   refine take_ (i := 0) (N := some 21) (v := ?_) (a' := ?_) spec_FollowWay.m5 rfl rfl (take_ofW HT_.out HW_.out (by kernel_rfl)) (fun _ _ _ h => h) (Or.inl ⟨by rfl, ?_⟩) hHeld ?_ ?_
   rotate_left
   ·rintro w' ⟨s0, s1⟩
    go_simp
    with_reducible rfl
   rotate_left
   ·exact zP
   refine take_ (i := 5) (N := some 26) (v := ?_) (a' := ?_) spec_FollowWay.m6 rfl rfl (take_ofW HT_.out HW_.out (by kernel_rfl)) (fun _ _ _ h => h) (Or.inl ⟨by rfl, ?_⟩) hHeld ?_ ?_
   rotate_left
   ·rintro w' ⟨s0, s1⟩
    go_simp
    with_reducible rfl
   rotate_left
   ·exact zP
   refine one_ (i := 6) (N := some 27) spec_FollowWay.m7 rfl rfl (one_of HT_.out (by kernel_rfl)) (by decide) (fun K hK => ?_)
   refine goes_ Try.func79 (by kernel_rfl) rfl #[.agg #[.slice A0_0 l0_0.length c0_0], .slice Ao19 x6_1.length co19, .int .i64 (rd l1 x7_1)] (by rfl) rfl rfl zL ?_
   with_reducible refine (spec_l27Possible.calls k1 _ _ l0_0 _ _ x6_1 (rd l1 x7_1) true _ ?side1 ?side2 ?side3 ?side4 A15.out).mono ?_
   (case side1 => repeat (first | exact (Kd.C_below HR0_0.out HB.out) | (with_reducible refine Kd.C_alloc ?_ _) | (with_reducible refine Kd.C_drewN ?_ _) | (with_reducible refine Kd.C_drew ?_)))
   (case side2 => exact HC0_0.out)
   (case side3 => repeat (first | exact (Kd.R_reads' HO_6.out).2.2 | (with_reducible refine Kd.C_alloc ?_ _) | (with_reducible refine Kd.C_drewN ?_ _) | (with_reducible refine Kd.C_drew ?_)))
   (case side4 => exact (Kd.R_reads' HO_6.out).2.1)
   rintro e w20 ⟨rfl, hb⟩
   refine ⟨_, rfl, ?_⟩
   have n0_ := am (Kd.R_below (zR HO_6) hb)
   have n1_ := am (Bk4 (g := gb476) (o := .cells #[.slice A0_0 l0_0.length c0_0] 29 (0, 0)) (zK BK476) hb)
   have n2_ := am (Bb6 (by repeat (first | (with_reducible first | exact HB.out | apply Bb1 | apply Bb2 | apply Bb3 | refine Bb4 ?_ GE476.out) | exact HB.out)) hb)
   clear HO_6
   clear BK476
   clear HB
   have HO_6 := n0_
   have BK476 := n1_
   have HB := n2_
   clear n0_ n1_ n2_
   (try clear hb)
   (try clear hb2)
   (try clear hk)
   (try clear hi)
   refine hK.out _ _ ⟨(kc BK476.out 0).trans rfl, (pc HB.out hw481_0)⟩ (fun hHeld => ?_)
   clear hK K
   refine norm_ (a' := ?_) ?_ ?_
   rotate_left
   ·show Act.put _ (some 27) _ = _
    simp only [Act.put, sa, i64_w, i32_w]
    rfl
   refine pure_ (i := 7) (N := some 28) (v := ?_) (a' := ?_) spec_FollowWay.m8 rfl rfl zA (fun _ _ _ h => h) (Or.inl ⟨by rfl, ?_⟩) ?_ ?_
   rotate_left
   ·intro w'
    go_simp
    with_reducible rfl
   rotate_left
   ·exact zP
   refine done_ (done_of HT_.out (by kernel_rfl)) ?_
   have p483 : 0 ≤ (x7_1 : Int) := zD
   have q483 : x7_1 < (l1.length : Int) := zD
   obtain ⟨ad483, e483, hx483_0⟩ := Kd.at_int HR1.out x7_1 p483 q483
   obtain rfl : ad481 = ad483 := (by injection e483)
   replace hx483_0 := pc HB.out hx483_0
   replace p483 := eq_true p483
   replace q483 := eq_true q483
   try go_wp2_with (first | ((with_reducible refine gate_callee (f := 80) rfl ?_); refine goesL_ (some 34) rfl rfl Try.func80 (by kernel_rfl) rfl #[.slice Ao19 x6_1.length co19, .int .i64 (rd l1 x7_1)] rfl zL ?_; (with_reducible refine (spec_l27After.calls k1 _ _ x6_1 (rd l1 x7_1) t484 _ ?side1 ?side2 A17.out).mono ?_); (case side1 => repeat (first | exact (Kd.R_reads' HO_6.out).2.2 | (with_reducible refine Kd.C_alloc ?_ _) | (with_reducible refine Kd.C_drewN ?_ _) | (with_reducible refine Kd.C_drew ?_))); (case side2 => exact (Kd.R_reads' HO_6.out).2.1); rintro e w21 ⟨v485, rfl, ho0, hb⟩; refine ⟨_, rfl, ?_⟩; have n0_ := am (Kd.R_elder' (zR HO_6) (Kd.R_base ho0) hb); have n1_ := am (Kd.R_lower (Kd.R_new' ho0 (Kd.R_lt (zR HO_6))) (Bb5 (by repeat (first | (with_reducible first | exact HB.out | apply Bb1 | apply Bb2 | apply Bb3 | refine Bb4 ?_ GE476.out) | exact HB.out)))); have n2_ := am (Bk4 (g := gb476) (o := .cells #[.slice A0_0 l0_0.length c0_0] 29 (0, 0)) (zK BK476) hb); have n3_ := am (Bb6 (by repeat (first | (with_reducible first | exact HB.out | apply Bb1 | apply Bb2 | apply Bb3 | refine Bb4 ?_ GE476.out) | exact HB.out)) hb); clear HO_6; clear BK476; clear HB; have HO_6 := n0_; have HO486 := n1_; have BK476 := n2_; have HB := n3_; clear n0_ n1_ n2_ n3_; (try clear hb); (try clear hb2); (try clear hk); (try clear hi); (try clear ho0)))
   go_roundg k1
   case measure => have := HK1.out; omega
   case rel => exact ⟨(t484), (wrap64 (x7_1 + 1)), zS, H', ⟨by have := HK1.out; omega⟩, ⟨by (with_reducible repeat (first | apply Kd.R_alloc | apply Kd.R_drewN | apply Kd.R_drew)); exact Kd.R_mono HO486.out (fun _ hk => trivial)⟩, ⟨zK BK476⟩, ⟨by repeat (first | (with_reducible first | exact HB.out | apply Bb1 | apply Bb2 | apply Bb3 | refine Bb4 ?_ GE476.out) | exact HB.out)⟩⟩

end Go.Proofs.Ytjgnlakgojookaa.Q
