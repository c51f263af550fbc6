/- Written by a program of this session (wip/tools/pp.py) out of the translation, with the kit's printer. -/
import Derived.Test.YtjgnlakgojookaaQ0
import Derived.Test.YtjgnlakgojookaaQ2
import Derived.Test.YtjgnlakgojookaaQ4
import Derived.Test.YtjgnlakgojookaaQGspecl09Connected
import Derived.Test.YtjgnlakgojookaaQ6
namespace Go.Proofs.Ytjgnlakgojookaa.Q
open Go.RowKit Go.Proofs.YtjgnlakgojookaaW.PrintWords Go.Proofs.YtjgnlakgojookaaW.PrintLast Go.Proofs.YtjgnlakgojookaaW.PrintMore
attribute [local go_sem] max2_int min2_int max_two min_two max_three min_three max_four min_four
set_option linter.unusedVariables false
set_option linter.unusedSimpArgs false

/-! ### spec_IsAssembly: function 14 -/
abbrev spec_IsAssembly.m0 : Array Bool := #[z',z',z',z',z',z',z',z',z',z',z']
abbrev spec_IsAssembly.m1 : Array Bool := #[o',z',z',z',z',z',z',z',z',z',z']
abbrev spec_IsAssembly.m2 : Array Bool := #[o',z',o',z',z',z',z',z',z',z',z']
abbrev spec_IsAssembly.m3 : Array Bool := #[o',z',o',z',z',o',z',z',z',z',z']
abbrev spec_IsAssembly.m4 : Array Bool := #[o',z',o',z',z',o',z',o',z',z',z']
abbrev spec_IsAssembly.m5 : Array Bool := #[o',o',o',z',z',o',z',o',z',z',z']
abbrev spec_IsAssembly.m6 : Array Bool := #[o',o',o',o',z',o',z',o',z',z',z']
abbrev spec_IsAssembly.m7 : Array Bool := #[o',o',o',o',o',o',z',o',z',z',z']
abbrev spec_IsAssembly.m8 : Array Bool := #[o',o',o',o',o',o',o',o',z',z',z']
abbrev spec_IsAssembly.m9 : Array Bool := #[o',o',o',o',o',o',o',o',o',z',z']
abbrev spec_IsAssembly.m10 : Array Bool := #[o',o',o',o',o',o',o',o',o',o',z']
abbrev spec_IsAssembly.m11 : Array Bool := #[o',o',o',o',o',o',o',o',o',o',o']
mutual
def spec_IsAssembly.l0 : Nat → Int → List (List (S71)) → Option (Bool)
 | 0, _, _ => none
 | k + 1, x3, x130000 => if x3 < (x130000.length : Int) then (if 0 ≤ x3 then ((spec_l09Solid.f k (rd_L4 x130000 x3)).bind fun t132 => (if t132 = true then ((spec_l09Connected.f k (rd_L4 x130000 x3)).bind fun t134 => (spec_IsAssembly.j1 k x3 (!t134) x130000)) else (spec_IsAssembly.j1 k x3 true x130000))) else (none)) else (some true)
def spec_IsAssembly.j1 : Nat → Int → Bool → List (List (S71)) → Option (Bool)
 | 0, _, _, _ => none
 | k + 1, x3, x34, x130000 => if x34 = true then (some false) else (spec_IsAssembly.l1 k x3 0 x130000)
def spec_IsAssembly.l1 : Nat → Int → Int → List (List (S71)) → Option (Bool)
 | 0, _, _, _ => none
 | k + 1, x3, x4, x130000 => if 0 ≤ x3 then (if x3 < (x130000.length : Int) then (if x4 < ((rd_L4 x130000 x3).length : Int) then (if 0 ≤ x4 then ((spec_l01In.f ((rd_T71 (rd_L4 x130000 x3) x4).f0) 0 7).bind fun t139 => (if t139 = true then ((spec_l01In.f ((rd_T71 (rd_L4 x130000 x3) x4).f1) 0 7).bind fun t140 => (if t140 = true then ((spec_l01In.f ((rd_T71 (rd_L4 x130000 x3) x4).f2) 0 7).bind fun t141 => (if t141 = true then (spec_IsAssembly.l1 k x3 (wrap64 (x4 + 1)) x130000) else (some false))) else (some false))) else (some false))) else (none)) else (spec_IsAssembly.l2 k x3 0 x130000)) else (none)) else (none)
def spec_IsAssembly.l2 : Nat → Int → Int → List (List (S71)) → Option (Bool)
 | 0, _, _, _ => none
 | k + 1, x3, x6, x130000 => if x6 < x3 then (if 0 ≤ x3 then (if x3 < (x130000.length : Int) then (if 0 ≤ x6 then (if x6 < (x130000.length : Int) then ((spec_l27Meet.f k (rd_L4 x130000 x3) (rd_L4 x130000 x6)).bind fun t144 => (if t144 = true then (some false) else (spec_IsAssembly.l2 k x3 (wrap64 (x6 + 1)) x130000))) else (none)) else (none)) else (none)) else (none)) else (spec_IsAssembly.l0 k (wrap64 (x3 + 1)) x130000)
end
def spec_IsAssembly.f (k : Nat) (l0_0 : List (List (S71))) : Option (Bool) := (spec_l01In.f (l0_0.length : Int) 2 4).bind fun t130 => (if t130 = true then (spec_IsAssembly.l0 k 0 l0_0) else (some false))
theorem spec_IsAssembly.mono_l : ∀ k, (∀ y0 y1, LeO (spec_IsAssembly.l0 k y0 y1) (spec_IsAssembly.l0 (k + 1) y0 y1)) ∧ (∀ y0 y1 y2, LeO (spec_IsAssembly.j1 k y0 y1 y2) (spec_IsAssembly.j1 (k + 1) y0 y1 y2)) ∧ (∀ y0 y1 y2, LeO (spec_IsAssembly.l1 k y0 y1 y2) (spec_IsAssembly.l1 (k + 1) y0 y1 y2)) ∧ (∀ y0 y1 y2, LeO (spec_IsAssembly.l2 k y0 y1 y2) (spec_IsAssembly.l2 (k + 1) y0 y1 y2))
 | 0 => ⟨fun _ _ r h => by simp [spec_IsAssembly.l0] at h, fun _ _ _ r h => by simp [spec_IsAssembly.j1] at h, fun _ _ _ r h => by simp [spec_IsAssembly.l1] at h, fun _ _ _ r h => by simp [spec_IsAssembly.l2] at h⟩
 | k + 1 => by
  obtain ⟨ih0, ih1, ih2, ih3⟩ := spec_IsAssembly.mono_l k
  refine ⟨?_, ?_, ?_, ?_⟩
  ·intro y0 y1
   unfold spec_IsAssembly.l0
   repeat' first
   | (with_reducible exact ih0 _ _)
   | (with_reducible exact ih1 _ _ _)
   | (with_reducible exact ih2 _ _ _)
   | (with_reducible exact ih3 _ _ _)
   | (with_reducible exact spec_l09Connected.mono _ _)
   | (with_reducible exact spec_l09Solid.mono _ _)
   | (with_reducible exact spec_l27Meet.mono _ _ _)
   | (with_reducible exact LeO.refl _)
   | (with_reducible exact LeO.none _)
   | (with_reducible refine LeO.ite ?_ ?_)
   | (with_reducible refine LeO.bind ?_ (fun _ => ?_))
   | exact ih0 _ _
   | exact ih1 _ _ _
   | exact ih2 _ _ _
   | exact ih3 _ _ _
   | exact spec_l09Connected.mono _ _
   | exact spec_l09Solid.mono _ _
   | exact spec_l27Meet.mono _ _ _
   | exact LeO.none _
   | refine LeO.ite ?_ ?_
   | refine LeO.bind ?_ (fun _ => ?_)
  ·intro y0 y1 y2
   unfold spec_IsAssembly.j1
   repeat' first
   | (with_reducible exact ih0 _ _)
   | (with_reducible exact ih1 _ _ _)
   | (with_reducible exact ih2 _ _ _)
   | (with_reducible exact ih3 _ _ _)
   | (with_reducible exact spec_l09Connected.mono _ _)
   | (with_reducible exact spec_l09Solid.mono _ _)
   | (with_reducible exact spec_l27Meet.mono _ _ _)
   | (with_reducible exact LeO.refl _)
   | (with_reducible exact LeO.none _)
   | (with_reducible refine LeO.ite ?_ ?_)
   | (with_reducible refine LeO.bind ?_ (fun _ => ?_))
   | exact ih0 _ _
   | exact ih1 _ _ _
   | exact ih2 _ _ _
   | exact ih3 _ _ _
   | exact spec_l09Connected.mono _ _
   | exact spec_l09Solid.mono _ _
   | exact spec_l27Meet.mono _ _ _
   | exact LeO.none _
   | refine LeO.ite ?_ ?_
   | refine LeO.bind ?_ (fun _ => ?_)
  ·intro y0 y1 y2
   unfold spec_IsAssembly.l1
   repeat' first
   | (with_reducible exact ih0 _ _)
   | (with_reducible exact ih1 _ _ _)
   | (with_reducible exact ih2 _ _ _)
   | (with_reducible exact ih3 _ _ _)
   | (with_reducible exact spec_l09Connected.mono _ _)
   | (with_reducible exact spec_l09Solid.mono _ _)
   | (with_reducible exact spec_l27Meet.mono _ _ _)
   | (with_reducible exact LeO.refl _)
   | (with_reducible exact LeO.none _)
   | (with_reducible refine LeO.ite ?_ ?_)
   | (with_reducible refine LeO.bind ?_ (fun _ => ?_))
   | exact ih0 _ _
   | exact ih1 _ _ _
   | exact ih2 _ _ _
   | exact ih3 _ _ _
   | exact spec_l09Connected.mono _ _
   | exact spec_l09Solid.mono _ _
   | exact spec_l27Meet.mono _ _ _
   | exact LeO.none _
   | refine LeO.ite ?_ ?_
   | refine LeO.bind ?_ (fun _ => ?_)
  ·intro y0 y1 y2
   unfold spec_IsAssembly.l2
   repeat' first
   | (with_reducible exact ih0 _ _)
   | (with_reducible exact ih1 _ _ _)
   | (with_reducible exact ih2 _ _ _)
   | (with_reducible exact ih3 _ _ _)
   | (with_reducible exact spec_l09Connected.mono _ _)
   | (with_reducible exact spec_l09Solid.mono _ _)
   | (with_reducible exact spec_l27Meet.mono _ _ _)
   | (with_reducible exact LeO.refl _)
   | (with_reducible exact LeO.none _)
   | (with_reducible refine LeO.ite ?_ ?_)
   | (with_reducible refine LeO.bind ?_ (fun _ => ?_))
   | exact ih0 _ _
   | exact ih1 _ _ _
   | exact ih2 _ _ _
   | exact ih3 _ _ _
   | exact spec_l09Connected.mono _ _
   | exact spec_l09Solid.mono _ _
   | exact spec_l27Meet.mono _ _ _
   | exact LeO.none _
   | refine LeO.ite ?_ ?_
   | refine LeO.bind ?_ (fun _ => ?_)
theorem spec_IsAssembly.mono : ∀ a0 k, LeO (spec_IsAssembly.f k a0) (spec_IsAssembly.f (k + 1) a0) := by
 intro a0 k
 obtain ⟨ih0, ih1, ih2, ih3⟩ := spec_IsAssembly.mono_l k
 unfold spec_IsAssembly.f
 repeat' first
   | (with_reducible exact ih0 _ _)
   | (with_reducible exact ih1 _ _ _)
   | (with_reducible exact ih2 _ _ _)
   | (with_reducible exact ih3 _ _ _)
   | (with_reducible exact spec_l09Connected.mono _ _)
   | (with_reducible exact spec_l09Solid.mono _ _)
   | (with_reducible exact spec_l27Meet.mono _ _ _)
   | (with_reducible exact LeO.refl _)
   | (with_reducible exact LeO.none _)
   | (with_reducible refine LeO.ite ?_ ?_)
   | (with_reducible refine LeO.bind ?_ (fun _ => ?_))
   | exact ih0 _ _
   | exact ih1 _ _ _
   | exact ih2 _ _ _
   | exact ih3 _ _ _
   | exact spec_l09Connected.mono _ _
   | exact spec_l09Solid.mono _ _
   | exact spec_l27Meet.mono _ _ _
   | exact LeO.none _
   | refine LeO.ite ?_ ?_
   | refine LeO.bind ?_ (fun _ => ?_)
def spec_IsAssembly.T17 : Bool × List (List Nat × List Nat) := (true, [([], []), ([0], [0]), ([], []), ([1, 2], [1, 2]), ([3], [3]), ([], []), ([5], [5]), ([], []), ([6, 7], [6, 7]), ([8], [8]), ([4, 9], [4, 9])])
def spec_IsAssembly.B17 : List Nat := [0, 1, 0, 7, 15, 0, 32, 0, 224, 480, 1023]
theorem spec_IsAssembly.tab17 : rtab .any (opsOf Try.f14 17) = spec_IsAssembly.T17 := by kernel_rfl
theorem spec_IsAssembly.bits17 : waitsOk spec_IsAssembly.T17.2 spec_IsAssembly.B17 = true := by kernel_rfl
set_option maxHeartbeats 8000000 in
set_option maxRecDepth 100000 in
theorem spec_IsAssembly.calls (k : Nat) (A0_0 : Option Addr) (c0_0 : Nat) (l0_0 : List (List (S71))) (r : Bool) (w : World) (hr0_0 : Kd.C (Kd.slice 71 k71) w A0_0 l0_0.length l0_0) (hc0_0 : l0_0.length ≤ c0_0) (h : spec_IsAssembly.f k l0_0 = some r) :
  Calls Try.prog 14 #[.agg #[.slice A0_0 l0_0.length c0_0]] w fun e w' => e = .returned (.bool r) ∧ Below w.heap.size w w' := by
 have hu29 := Try.underlying29
 have hu71 := Try.underlying71
 have HR0_0 := am hr0_0
 have HC0_0 := am hc0_0
 clear hr0_0 hc0_0
 have HB := am (Below.refl w.heap.size w)
 have H : ((spec_l01In.f (l0_0.length : Int) 2 4).bind fun t130 => (if t130 = true then (spec_IsAssembly.l0 k 0 l0_0) else (some false))) = some r := h
 clear h
 replace H := ob H
 obtain ⟨t130, A20, H⟩ := H
 (try dsimp only at H)
 have A2 := am A20
 clear A20
 by_cases c3 : t130 = true
 rotate_left
 ·replace c3 := ef c3
  subst c3
  have H1 : (some false) = some r := by first | (rw [if_neg (show ¬ (false = true) by decide)] at H; exact H) | rfl
  clear H
  have H := H1
  clear H1
  obtain rfl := oi H
  go_enter Try.func14, Try.ntmps14
  go_wp2_with (first | ((with_reducible refine gate_dst (N := 1) rfl ?_); refine box_event ?hg (N := 1) ?hd (cs := #[.slice A0_0 l0_0.length c0_0]) (t := 29) ?hr ?_; (case hd => rfl); (case hg => rfl); (case hr => first | (go_simp; done) | (go_simp; rfl)); intro gb129 hg w59 hbox hb; have n0_ := am (Bb6 zB hb); have n1_ := am (hbox); have n2_ := am ((by rw [hg]; exact (Bb5 zB) : w.heap.size ≤ gb129)); have n3_ := n2_; clear HB; have HB := n0_; have BK129 := n1_; have GW129 := n2_; have GE129 := n3_; clear n0_ n1_ n2_ n3_; clear hb hbox hg; have hcz60_0 : w59.cell? ⟨gb129, 0, none⟩ = some (.slice A0_0 l0_0.length c0_0) := (kc BK129.out 0).trans rfl; have hfz60_0 := kf BK129.out 0) | ((with_reducible refine gate_callee (f := 54) rfl ?_); refine goesL_ (some 10) rfl rfl Try.func54 (by kernel_rfl) rfl #[.int .i64 (l0_0.length : Int), .int .i64 2, .int .i64 4] rfl zL ?_; (with_reducible refine (spec_l01In.calls (l0_0.length : Int) 2 4 false _ A2.out).mono ?_); rintro e w' ⟨rfl, ⟨nd, rfl⟩⟩; refine ⟨_, rfl, ?_⟩))
  go_ret
  exact ⟨zE, by repeat (first | (with_reducible first | exact HB.out | apply Bb1 | apply Bb2 | apply Bb3 | refine Bb4 ?_ GE129.out) | exact HB.out)⟩
 subst c3
 have H1 : (spec_IsAssembly.l0 k 0 l0_0) = some r := by first | (rw [if_pos rfl] at H; exact H) | rfl
 clear H
 have H := H1
 clear H1
 have H' := am H
 clear H
 go_enter Try.func14, Try.ntmps14
 go_wp2_with (first | ((with_reducible refine gate_dst (N := 1) rfl ?_); refine box_event ?hg (N := 1) ?hd (cs := #[.slice A0_0 l0_0.length c0_0]) (t := 29) ?hr ?_; (case hd => rfl); (case hg => rfl); (case hr => first | (go_simp; done) | (go_simp; rfl)); intro gb129 hg w4 hbox hb; have n0_ := am (Bb6 zB hb); have n1_ := am (hbox); have n2_ := am ((by rw [hg]; exact (Bb5 zB) : w.heap.size ≤ gb129)); have n3_ := n2_; clear HB; have HB := n0_; have BK129 := n1_; have GW129 := n2_; have GE129 := n3_; clear n0_ n1_ n2_ n3_; clear hb hbox hg; have hcz5_0 : w4.cell? ⟨gb129, 0, none⟩ = some (.slice A0_0 l0_0.length c0_0) := (kc BK129.out 0).trans rfl; have hfz5_0 := kf BK129.out 0) | ((with_reducible refine gate_callee (f := 54) rfl ?_); refine goesL_ (some 10) rfl rfl Try.func54 (by kernel_rfl) rfl #[.int .i64 (l0_0.length : Int), .int .i64 2, .int .i64 4] rfl zL ?_; (with_reducible refine (spec_l01In.calls (l0_0.length : Int) 2 4 true _ A2.out).mono ?_); rintro e w' ⟨rfl, ⟨nd, rfl⟩⟩; refine ⟨_, rfl, ?_⟩))
 go_loopg [3] k (fun kq v3 w' => ∃ (x3_1 : Int), v3 = .int .i64 x3_1 ∧ Aside0 (spec_IsAssembly.l0 kq x3_1 l0_0 = some r) ∧ Aside0 (kq ≤ k) ∧ Aside0 (w'.heap[gb129]? = some (.cells #[(.slice A0_0 l0_0.length c0_0)] 29 (0, 0))) ∧ Aside0 (Below w.heap.size w w'))
 case atStart => exact ⟨(0), zS, H', ⟨Nat.le_refl _⟩, ⟨zK BK129⟩, ⟨by repeat (first | (with_reducible first | exact HB.out | apply Bb1 | apply Bb2 | apply Bb3 | refine Bb4 ?_ GE129.out) | exact HB.out)⟩⟩
 case round =>
  clear H'
  try clear c1
  try clear p2
  try clear c3
  try clear c5
  try clear hcz5_0
  try clear hfz5_0
  obtain ⟨x3_1, rfl, HA, HK1, BK129, HB⟩ := hrel
  cases gk with
  | zero => exact absurd HA.out (by simp [spec_IsAssembly.l0])
  | succ k1 =>
   have H := HA.out
   clear HA
   simp only [spec_IsAssembly.l0] at H
   by_cases c6 : x3_1 < (l0_0.length : Int)
   rotate_left
   ·rw [if_neg c6] at H
    have c6b0 : decide (x3_1 < (l0_0.length : Int)) = false := decide_eq_false c6
    clear c6
    obtain rfl := oi H
    have hcz58_0 : wr.cell? ⟨gb129, 0, none⟩ = some (.slice A0_0 l0_0.length c0_0) := (kc BK129.out 0).trans rfl
    have hfz58_0 := kf BK129.out 0
    go_wp2
    go_ret
    exact ⟨zE, by repeat (first | (with_reducible first | exact HB.out | apply Bb1 | apply Bb2 | apply Bb3 | refine Bb4 ?_ GE129.out) | exact HB.out)⟩
   rw [if_pos c6] at H
   have c6b0 : decide (x3_1 < (l0_0.length : Int)) = true := decide_eq_true c6
   clear c6
   have HC7 := am H
   clear H
   have hcz8_0 : wr.cell? ⟨gb129, 0, none⟩ = some (.slice A0_0 l0_0.length c0_0) := (kc BK129.out 0).trans rfl
   have hfz8_0 := kf BK129.out 0
   go_upto_region 6 with (fail)
   go_cut [34] (fun v34 wc => ∃ (kq : Nat) (x34_6 : Bool), v34 = .bool x34_6 ∧ Aside0 (spec_IsAssembly.j1 kq x3_1 x34_6 l0_0 = some r) ∧ Aside0 (kq ≤ k1) ∧ Aside0 (wc.heap[gb129]? = some (.cells #[(.slice A0_0 l0_0.length c0_0)] 29 (0, 0))) ∧ Aside0 (Below w.heap.size w wc))
   case first =>
    have H := HC7.out
    clear HC7
    by_cases c9 : 0 ≤ x3_1
    rotate_left
    ·rw [if_neg c9] at H
     exact absurd H (by simp)
    rw [if_pos c9] at H
    have c9b0 : decide (0 ≤ x3_1) = true := decide_eq_true c9
    clear c9
    (first | rw [c9b0] | (simp only [i64_w, i32_w]; rw [c9b0]) | skip)
    replace H := ob H
    obtain ⟨t132, A100, H⟩ := H
    (try dsimp only at H)
    have A10 := am A100
    clear A100
    by_cases c11 : t132 = true
    rotate_left
    ·replace c11 := ef c11
     subst c11
     have H1 : (spec_IsAssembly.j1 k1 x3_1 true l0_0) = some r := by first | (rw [if_neg (show ¬ (false = true) by decide)] at H; exact H) | rfl
     clear H
     have H := H1
     clear H1
     have H' := am H
     clear H
     have hcz17_0 : wr.cell? ⟨gb129, 0, none⟩ = some (.slice A0_0 l0_0.length c0_0) := (kc BK129.out 0).trans rfl
     have hfz17_0 := kf BK129.out 0
     have p131 : 0 ≤ (x3_1 : Int) := zD
     have q131 : x3_1 < (l0_0.length : Int) := zD
     obtain ⟨ad131, A131_0, c131_0, e131, hx131_0, hl131_0, hi131_0⟩ := at_L4 HR0_0.out x3_1 p131 q131
     cases e131
     replace hx131_0 := pc HB.out hx131_0
     have HR131_0 := am hi131_0
     have HC131_0 := am hl131_0
     clear hi131_0 hl131_0
     replace p131 := eq_true p131
     replace q131 := eq_true q131
     go_wp2_with (first | ((with_reducible refine gate_callee (f := 55) rfl ?_); refine goesL_ (some 24) rfl rfl Try.func55 (by kernel_rfl) rfl #[.slice A131_0 (rd_L4 l0_0 x3_1).length c131_0] rfl zL ?_; (with_reducible refine (spec_l09Solid.calls k1 _ _ (rd_L4 l0_0 x3_1) false _ ?side1 ?side2 A10.out).mono ?_); (case side1 => repeat (first | exact (Kd.C_below HR131_0.out HB.out) | (with_reducible refine Kd.C_alloc ?_ _) | (with_reducible refine Kd.C_drewN ?_ _) | (with_reducible refine Kd.C_drew ?_))); (case side2 => exact HC131_0.out); rintro e w18 ⟨rfl, hb⟩; refine ⟨_, rfl, ?_⟩; have n0_ := am (Bk4 (g := gb129) (o := .cells #[.slice (some ad131) l0_0.length c0_0] 29 (0, 0)) (zK BK129) hb); have n1_ := am (Bb6 (by repeat (first | (with_reducible first | exact HB.out | apply Bb1 | apply Bb2 | apply Bb3 | refine Bb4 ?_ GE129.out) | exact HB.out)) hb); clear BK129; clear HB; have BK129 := n0_; have HB := n1_; clear n0_ n1_; (try clear hb); (try clear hb2); (try clear hk); (try clear hi)))
     go_meet
     case rel => exact ⟨_, (true), zS, H', ⟨by have := HK1.out; first | omega | exact Nat.le_refl _⟩, ⟨zK BK129⟩, ⟨by repeat (first | (with_reducible first | exact HB.out | apply Bb1 | apply Bb2 | apply Bb3 | refine Bb4 ?_ GE129.out) | exact HB.out)⟩⟩
    subst c11
    have H1 : ((spec_l09Connected.f k1 (rd_L4 l0_0 x3_1)).bind fun t134 => (spec_IsAssembly.j1 k1 x3_1 (!t134) l0_0)) = some r := by first | (rw [if_pos rfl] at H; exact H) | rfl
    clear H
    have H := H1
    clear H1
    replace H := ob H
    obtain ⟨t134, A120, H⟩ := H
    (try dsimp only at H)
    have A12 := am A120
    clear A120
    have H' := am H
    clear H
    have hcz13_0 : wr.cell? ⟨gb129, 0, none⟩ = some (.slice A0_0 l0_0.length c0_0) := (kc BK129.out 0).trans rfl
    have hfz13_0 := kf BK129.out 0
    have p131 : 0 ≤ (x3_1 : Int) := zD
    have q131 : x3_1 < (l0_0.length : Int) := zD
    obtain ⟨ad131, A131_0, c131_0, e131, hx131_0, hl131_0, hi131_0⟩ := at_L4 HR0_0.out x3_1 p131 q131
    cases e131
    replace hx131_0 := pc HB.out hx131_0
    have HR131_0 := am hi131_0
    have HC131_0 := am hl131_0
    clear hi131_0 hl131_0
    replace p131 := eq_true p131
    replace q131 := eq_true q131
    go_wp2_with (first | ((with_reducible refine gate_callee (f := 55) rfl ?_); refine goesL_ (some 24) rfl rfl Try.func55 (by kernel_rfl) rfl #[.slice A131_0 (rd_L4 l0_0 x3_1).length c131_0] rfl zL ?_; (with_reducible refine (spec_l09Solid.calls k1 _ _ (rd_L4 l0_0 x3_1) true _ ?side1 ?side2 A10.out).mono ?_); (case side1 => repeat (first | exact (Kd.C_below HR131_0.out HB.out) | (with_reducible refine Kd.C_alloc ?_ _) | (with_reducible refine Kd.C_drewN ?_ _) | (with_reducible refine Kd.C_drew ?_))); (case side2 => exact HC131_0.out); rintro e w14 ⟨rfl, hb⟩; refine ⟨_, rfl, ?_⟩; have n0_ := am (Bk4 (g := gb129) (o := .cells #[.slice (some ad131) l0_0.length c0_0] 29 (0, 0)) (zK BK129) hb); have n1_ := am (Bb6 (by repeat (first | (with_reducible first | exact HB.out | apply Bb1 | apply Bb2 | apply Bb3 | refine Bb4 ?_ GE129.out) | exact HB.out)) hb); clear BK129; clear HB; have BK129 := n0_; have HB := n1_; clear n0_ n1_; (try clear hb); (try clear hb2); (try clear hk); (try clear hi); have hcz15_0 : w14.cell? ⟨gb129, 0, none⟩ = some (.slice (some ad131) l0_0.length c0_0) := (kc BK129.out 0).trans rfl; have hfz15_0 := kf BK129.out 0; have p133 : 0 ≤ (x3_1 : Int) := zD; have q133 : x3_1 < (l0_0.length : Int) := zD; obtain ⟨ad133, A133_0, c133_0, e133, hx133_0, hl133_0, hi133_0⟩ := at_L4 HR0_0.out x3_1 p133 q133; obtain rfl : ad131 = ad133 := (by injection e133); replace hx133_0 := pc HB.out hx133_0; have HR133_0 := am hi133_0; have HC133_0 := am hl133_0; clear hi133_0 hl133_0; replace p133 := eq_true p133; replace q133 := eq_true q133) | (go_at_call 56; (with_reducible refine (spec_l09Connected.calls k1 _ _ (rd_L4 l0_0 x3_1) t134 _ ?side1 ?side2 A12.out).mono ?_); (case side1 => repeat (first | exact (Kd.C_below HR133_0.out HB.out) | (with_reducible refine Kd.C_alloc ?_ _) | (with_reducible refine Kd.C_drewN ?_ _) | (with_reducible refine Kd.C_drew ?_))); (case side2 => exact HC133_0.out); rintro e w16 ⟨rfl, hb⟩; have n0_ := am (Bk4 (g := gb129) (o := .cells #[.slice (some ad131) l0_0.length c0_0] 29 (0, 0)) (zK BK129) hb); have n1_ := am (Bb6 (by repeat (first | (with_reducible first | exact HB.out | apply Bb1 | apply Bb2 | apply Bb3 | refine Bb4 ?_ GE129.out) | exact HB.out)) hb); clear BK129; clear HB; have BK129 := n0_; have HB := n1_; clear n0_ n1_; (try clear hb); (try clear hb2); (try clear hk); (try clear hi)))
    go_meet
    case rel => exact ⟨_, (!t134), zS, H', ⟨by have := HK1.out; first | omega | exact Nat.le_refl _⟩, ⟨zK BK129⟩, ⟨by repeat (first | (with_reducible first | exact HB.out | apply Bb1 | apply Bb2 | apply Bb3 | refine Bb4 ?_ GE129.out) | exact HB.out)⟩⟩
   clear HC7
   try clear c1
   try clear p1
   try clear q1
   try clear hx1
   try clear p2
   try clear c3
   try clear c5
   try clear c6
   try clear c6b0
   try clear c9
   try clear c9b0
   try clear c11
   try clear c13
   try clear p13
   try clear q13
   try clear hx13
   try clear c14
   try clear hcz13_0
   try clear hcz15_0
   try clear hcz17_0
   try clear hcz5_0
   try clear hcz8_0
   try clear hfz13_0
   try clear hfz15_0
   try clear hfz17_0
   try clear hfz5_0
   try clear hfz8_0
   try clear hx131_0
   try clear hx133_0
   try clear p131
   try clear p133
   try clear p2
   try clear q131
   try clear q133
   obtain ⟨kq, x34_6, rfl, HA, HJ6, BK129, HB⟩ := hcut
   cases kq with
   | zero => exact absurd HA.out (by simp [spec_IsAssembly.j1])
   | succ kj6 =>
    have H := HA.out
    clear HA
    simp only [spec_IsAssembly.j1] at H
    by_cases c19 : x34_6 = true
    ·subst c19
     have H1 : (some false) = some r := by first | (rw [if_pos rfl] at H; exact H) | rfl
     clear H
     have H := H1
     clear H1
     obtain rfl := oi H
     go_wp2
     go_ret
     exact ⟨zE, by repeat (first | (with_reducible first | exact HB.out | apply Bb1 | apply Bb2 | apply Bb3 | refine Bb4 ?_ GE129.out) | exact HB.out)⟩
    replace c19 := ef c19
    subst c19
    have H1 : (spec_IsAssembly.l1 kj6 x3_1 0 l0_0) = some r := by first | (rw [if_neg (show ¬ (false = true) by decide)] at H; exact H) | rfl
    clear H
    have H := H1
    clear H1
    have H' := am H
    clear H
    go_wp2
    go_loopg [4] kj6 (fun kq v4 w' => ∃ (x4_3 : Int), v4 = .int .i64 x4_3 ∧ Aside0 (spec_IsAssembly.l1 kq x3_1 x4_3 l0_0 = some r) ∧ Aside0 (kq ≤ kj6) ∧ Aside0 (w'.heap[gb129]? = some (.cells #[(.slice A0_0 l0_0.length c0_0)] 29 (0, 0))) ∧ Aside0 (Below w.heap.size w w'))
    case atStart => exact ⟨(0), zS, H', ⟨Nat.le_refl _⟩, ⟨zK BK129⟩, ⟨by repeat (first | (with_reducible first | exact HB.out | apply Bb1 | apply Bb2 | apply Bb3 | refine Bb4 ?_ GE129.out) | exact HB.out)⟩⟩
    case round =>
     clear H'
     try clear c1
     try clear p1
     try clear q1
     try clear hx1
     try clear p2
     try clear c3
     try clear c5
     try clear c6
     try clear c6b0
     try clear c9
     try clear c9b0
     try clear c11
     try clear c13
     try clear p13
     try clear q13
     try clear hx13
     try clear c14
     try clear c19
     try clear hcz13_0
     try clear hcz15_0
     try clear hcz17_0
     try clear hcz5_0
     try clear hcz8_0
     try clear hfz13_0
     try clear hfz15_0
     try clear hfz17_0
     try clear hfz5_0
     try clear hfz8_0
     try clear hx131_0
     try clear hx133_0
     try clear p1
     try clear p13
     try clear p131
     try clear p133
     try clear p2
     try clear q1
     try clear q13
     try clear q131
     try clear q133
     obtain ⟨x4_3, rfl, HA, HK3, BK129, HB⟩ := hrel
     cases gk with
     | zero => exact absurd HA.out (by simp [spec_IsAssembly.l1])
     | succ k3 =>
      have H := HA.out
      clear HA
      simp only [spec_IsAssembly.l1] at H
      by_cases c20 : 0 ≤ x3_1
      rotate_left
      ·rw [if_neg c20] at H
       exact absurd H (by simp)
      rw [if_pos c20] at H
      have c20b0 : decide (0 ≤ x3_1) = true := decide_eq_true c20
      clear c20
      by_cases c21 : x3_1 < (l0_0.length : Int)
      rotate_left
      ·rw [if_neg c21] at H
       exact absurd H (by simp)
      rw [if_pos c21] at H
      have c21b0 : decide (x3_1 < (l0_0.length : Int)) = true := decide_eq_true c21
      clear c21
      by_cases c22 : x4_3 < ((rd_L4 l0_0 x3_1).length : Int)
      ·rw [if_pos c22] at H
       have c22b0 : decide (x4_3 < ((rd_L4 l0_0 x3_1).length : Int)) = true := decide_eq_true c22
       clear c22
       by_cases c23 : 0 ≤ x4_3
       rotate_left
       ·rw [if_neg c23] at H
        exact absurd H (by simp)
       rw [if_pos c23] at H
       have c23b0 : decide (0 ≤ x4_3) = true := decide_eq_true c23
       clear c23
       replace H := ob H
       obtain ⟨t139, A240, H⟩ := H
       (try dsimp only at H)
       have A24 := am A240
       clear A240
       by_cases c25 : t139 = true
       rotate_left
       ·replace c25 := ef c25
        subst c25
        have H1 : (some false) = some r := by first | (rw [if_neg (show ¬ (false = true) by decide)] at H; exact H) | rfl
        clear H
        have H := H1
        clear H1
        obtain rfl := oi H
        have hcz42_0 : wr.cell? ⟨gb129, 0, none⟩ = some (.slice A0_0 l0_0.length c0_0) := (kc BK129.out 0).trans rfl
        have hfz42_0 := kf BK129.out 0
        have p135 : 0 ≤ (x3_1 : Int) := zD
        have q135 : x3_1 < (l0_0.length : Int) := zD
        obtain ⟨ad135, A135_0, c135_0, e135, hx135_0, hl135_0, hi135_0⟩ := at_L4 HR0_0.out x3_1 p135 q135
        cases e135
        replace hx135_0 := pc HB.out hx135_0
        have HR135_0 := am hi135_0
        have HC135_0 := am hl135_0
        clear hi135_0 hl135_0
        replace p135 := eq_true p135
        replace q135 := eq_true q135
        have p136 : 0 ≤ (x3_1 : Int) := zD
        have q136 : x3_1 < (l0_0.length : Int) := zD
        obtain ⟨ad136, A136_0, c136_0, e136, hx136_0, hl136_0, hi136_0⟩ := at_L4 HR0_0.out x3_1 p136 q136
        obtain rfl : ad135 = ad136 := (by injection e136)
        replace hx136_0 := pc HB.out hx136_0
        have HR136_0 := am hi136_0
        have HC136_0 := am hl136_0
        clear hi136_0 hl136_0
        replace p136 := eq_true p136
        replace q136 := eq_true q136
        have ea_ := oi (hx135_0.symm.trans hx136_0)
        injection ea_ with ea_ en_ ec_
        subst ea_
        subst ec_
        clear en_
        have p137 : 0 ≤ (x4_3 : Int) := zD
        have q137 : x4_3 < ((rd_L4 l0_0 x3_1).length : Int) := zD
        obtain ⟨ad137, e137, hx137_0, hx137_1, hx137_2⟩ := at_T71 HR136_0.out x4_3 p137 q137
        cases e137
        replace hx137_0 := pc HB.out hx137_0
        replace hx137_1 := pc HB.out hx137_1
        replace hx137_2 := pc HB.out hx137_2
        replace p137 := eq_true p137
        replace q137 := eq_true q137
        go_wp2_with (first | ((with_reducible refine gate_dst (N := 5) rfl ?_); refine box_event ?hg (N := 5) ?hd (cs := #[.int .i64 0, .int .i64 0, .int .i64 0]) (t := 71) ?hr ?_; (case hd => rfl); (case hg => rfl); (case hr => first | (go_simp; done) | (go_simp; rfl)); intro gb138 hg w43 hbox hb; have n0_ := am (Bk4 (g := gb129) (o := .cells #[.slice (some ad135) l0_0.length c0_0] 29 (0, 0)) (zK BK129) hb); have n1_ := am (Bb6 (by repeat (first | (with_reducible first | exact HB.out | apply Bb1 | apply Bb2 | apply Bb3 | refine Bb4 ?_ GE129.out) | exact HB.out)) hb); have n2_ := am (hbox); have n3_ := am ((by rw [hg]; exact (Bb5 (by repeat (first | (with_reducible first | exact HB.out | apply Bb1 | apply Bb2 | apply Bb3 | refine Bb4 ?_ GE129.out) | exact HB.out))) : w.heap.size ≤ gb138)); have n4_ := n3_; have n5_ := am ((by rw [hg]; exact nl (Bk5 (g := gb129) (o := .cells #[.slice (some ad135) l0_0.length c0_0] 29 (0, 0)) (zK BK129)) : gb129 ≠ gb138)); have n6_ := am ((by rw [hg]; exact ng (Bk5 (g := gb129) (o := .cells #[.slice (some ad135) l0_0.length c0_0] 29 (0, 0)) (zK BK129)) : gb138 ≠ gb129)); clear BK129; clear HB; have BK129 := n0_; have HB := n1_; have BK138 := n2_; have GW138 := n3_; have GE138 := n4_; have NB129_138 := n5_; have NB138_129 := n6_; clear n0_ n1_ n2_ n3_ n4_ n5_ n6_; clear hb hbox hg; have hnb44 := NB138_129.out; have hnc44 := NB129_138.out; have hcz45_0 : w43.cell? ⟨gb138, 0, none⟩ = some (.int .i64 0) := (kc BK138.out 0).trans rfl; have hcz45_1 : w43.cell? ⟨gb138, 1, none⟩ = some (.int .i64 0) := (kc BK138.out 1).trans rfl; have hcz45_2 : w43.cell? ⟨gb138, 2, none⟩ = some (.int .i64 0) := (kc BK138.out 2).trans rfl; have hfz45_0 := kf BK138.out 0; have hfz45_1 := kf BK138.out 1; have hfz45_2 := kf BK138.out 2) | ((with_reducible refine gate_callee (f := 54) rfl ?_); refine goesL_ (some 55) rfl rfl Try.func54 (by kernel_rfl) rfl #[.int .i64 ((rd_T71 (rd_L4 l0_0 x3_1) x4_3).f0), .int .i64 0, .int .i64 7] rfl zL ?_; (with_reducible refine (spec_l01In.calls ((rd_T71 (rd_L4 l0_0 x3_1) x4_3).f0) 0 7 false _ A24.out).mono ?_); rintro e w' ⟨rfl, ⟨nd, rfl⟩⟩; refine ⟨_, rfl, ?_⟩))
        go_ret
        exact ⟨zE, by repeat (first | (with_reducible first | exact HB.out | apply Bb1 | apply Bb2 | apply Bb3 | refine Bb4 ?_ GE129.out | refine Bb4 ?_ GE138.out) | exact HB.out)⟩
       subst c25
       have H1 : ((spec_l01In.f ((rd_T71 (rd_L4 l0_0 x3_1) x4_3).f1) 0 7).bind fun t140 => (if t140 = true then ((spec_l01In.f ((rd_T71 (rd_L4 l0_0 x3_1) x4_3).f2) 0 7).bind fun t141 => (if t141 = true then (spec_IsAssembly.l1 k3 x3_1 (wrap64 (x4_3 + 1)) l0_0) else (some false))) else (some false))) = some r := by first | (rw [if_pos rfl] at H; exact H) | rfl
       clear H
       have H := H1
       clear H1
       replace H := ob H
       obtain ⟨t140, A260, H⟩ := H
       (try dsimp only at H)
       have A26 := am A260
       clear A260
       by_cases c27 : t140 = true
       rotate_left
       ·replace c27 := ef c27
        subst c27
        have H1 : (some false) = some r := by first | (rw [if_neg (show ¬ (false = true) by decide)] at H; exact H) | rfl
        clear H
        have H := H1
        clear H1
        obtain rfl := oi H
        have hcz38_0 : wr.cell? ⟨gb129, 0, none⟩ = some (.slice A0_0 l0_0.length c0_0) := (kc BK129.out 0).trans rfl
        have hfz38_0 := kf BK129.out 0
        have p135 : 0 ≤ (x3_1 : Int) := zD
        have q135 : x3_1 < (l0_0.length : Int) := zD
        obtain ⟨ad135, A135_0, c135_0, e135, hx135_0, hl135_0, hi135_0⟩ := at_L4 HR0_0.out x3_1 p135 q135
        cases e135
        replace hx135_0 := pc HB.out hx135_0
        have HR135_0 := am hi135_0
        have HC135_0 := am hl135_0
        clear hi135_0 hl135_0
        replace p135 := eq_true p135
        replace q135 := eq_true q135
        have p136 : 0 ≤ (x3_1 : Int) := zD
        have q136 : x3_1 < (l0_0.length : Int) := zD
        obtain ⟨ad136, A136_0, c136_0, e136, hx136_0, hl136_0, hi136_0⟩ := at_L4 HR0_0.out x3_1 p136 q136
        obtain rfl : ad135 = ad136 := (by injection e136)
        replace hx136_0 := pc HB.out hx136_0
        have HR136_0 := am hi136_0
        have HC136_0 := am hl136_0
        clear hi136_0 hl136_0
        replace p136 := eq_true p136
        replace q136 := eq_true q136
        have ea_ := oi (hx135_0.symm.trans hx136_0)
        injection ea_ with ea_ en_ ec_
        subst ea_
        subst ec_
        clear en_
        have p137 : 0 ≤ (x4_3 : Int) := zD
        have q137 : x4_3 < ((rd_L4 l0_0 x3_1).length : Int) := zD
        obtain ⟨ad137, e137, hx137_0, hx137_1, hx137_2⟩ := at_T71 HR136_0.out x4_3 p137 q137
        cases e137
        replace hx137_0 := pc HB.out hx137_0
        replace hx137_1 := pc HB.out hx137_1
        replace hx137_2 := pc HB.out hx137_2
        replace p137 := eq_true p137
        replace q137 := eq_true q137
        go_wp2_with (first | ((with_reducible refine gate_dst (N := 5) rfl ?_); refine box_event ?hg (N := 5) ?hd (cs := #[.int .i64 0, .int .i64 0, .int .i64 0]) (t := 71) ?hr ?_; (case hd => rfl); (case hg => rfl); (case hr => first | (go_simp; done) | (go_simp; rfl)); intro gb138 hg w39 hbox hb; have n0_ := am (Bk4 (g := gb129) (o := .cells #[.slice (some ad135) l0_0.length c0_0] 29 (0, 0)) (zK BK129) hb); have n1_ := am (Bb6 (by repeat (first | (with_reducible first | exact HB.out | apply Bb1 | apply Bb2 | apply Bb3 | refine Bb4 ?_ GE129.out) | exact HB.out)) hb); have n2_ := am (hbox); have n3_ := am ((by rw [hg]; exact (Bb5 (by repeat (first | (with_reducible first | exact HB.out | apply Bb1 | apply Bb2 | apply Bb3 | refine Bb4 ?_ GE129.out) | exact HB.out))) : w.heap.size ≤ gb138)); have n4_ := n3_; have n5_ := am ((by rw [hg]; exact nl (Bk5 (g := gb129) (o := .cells #[.slice (some ad135) l0_0.length c0_0] 29 (0, 0)) (zK BK129)) : gb129 ≠ gb138)); have n6_ := am ((by rw [hg]; exact ng (Bk5 (g := gb129) (o := .cells #[.slice (some ad135) l0_0.length c0_0] 29 (0, 0)) (zK BK129)) : gb138 ≠ gb129)); clear BK129; clear HB; have BK129 := n0_; have HB := n1_; have BK138 := n2_; have GW138 := n3_; have GE138 := n4_; have NB129_138 := n5_; have NB138_129 := n6_; clear n0_ n1_ n2_ n3_ n4_ n5_ n6_; clear hb hbox hg; have hnb40 := NB138_129.out; have hnc40 := NB129_138.out; have hcz41_0 : w39.cell? ⟨gb138, 0, none⟩ = some (.int .i64 0) := (kc BK138.out 0).trans rfl; have hcz41_1 : w39.cell? ⟨gb138, 1, none⟩ = some (.int .i64 0) := (kc BK138.out 1).trans rfl; have hcz41_2 : w39.cell? ⟨gb138, 2, none⟩ = some (.int .i64 0) := (kc BK138.out 2).trans rfl; have hfz41_0 := kf BK138.out 0; have hfz41_1 := kf BK138.out 1; have hfz41_2 := kf BK138.out 2) | ((with_reducible refine gate_callee (f := 54) rfl ?_); refine goesL_ (some 55) rfl rfl Try.func54 (by kernel_rfl) rfl #[.int .i64 ((rd_T71 (rd_L4 l0_0 x3_1) x4_3).f0), .int .i64 0, .int .i64 7] rfl zL ?_; (with_reducible refine (spec_l01In.calls ((rd_T71 (rd_L4 l0_0 x3_1) x4_3).f0) 0 7 true _ A24.out).mono ?_); rintro e w' ⟨rfl, ⟨nd, rfl⟩⟩; refine ⟨_, rfl, ?_⟩) | (go_at_call 54; (with_reducible refine (spec_l01In.calls ((rd_T71 (rd_L4 l0_0 x3_1) x4_3).f1) 0 7 false _ A26.out).mono ?_); rintro e w' ⟨rfl, ⟨nd, rfl⟩⟩))
        go_ret
        exact ⟨zE, by repeat (first | (with_reducible first | exact HB.out | apply Bb1 | apply Bb2 | apply Bb3 | refine Bb4 ?_ GE129.out | refine Bb4 ?_ GE138.out) | exact HB.out)⟩
       subst c27
       have H1 : ((spec_l01In.f ((rd_T71 (rd_L4 l0_0 x3_1) x4_3).f2) 0 7).bind fun t141 => (if t141 = true then (spec_IsAssembly.l1 k3 x3_1 (wrap64 (x4_3 + 1)) l0_0) else (some false))) = some r := by first | (rw [if_pos rfl] at H; exact H) | rfl
       clear H
       have H := H1
       clear H1
       replace H := ob H
       obtain ⟨t141, A280, H⟩ := H
       (try dsimp only at H)
       have A28 := am A280
       clear A280
       by_cases c29 : t141 = true
       rotate_left
       ·replace c29 := ef c29
        subst c29
        have H1 : (some false) = some r := by first | (rw [if_neg (show ¬ (false = true) by decide)] at H; exact H) | rfl
        clear H
        have H := H1
        clear H1
        obtain rfl := oi H
        have hcz34_0 : wr.cell? ⟨gb129, 0, none⟩ = some (.slice A0_0 l0_0.length c0_0) := (kc BK129.out 0).trans rfl
        have hfz34_0 := kf BK129.out 0
        have p135 : 0 ≤ (x3_1 : Int) := zD
        have q135 : x3_1 < (l0_0.length : Int) := zD
        obtain ⟨ad135, A135_0, c135_0, e135, hx135_0, hl135_0, hi135_0⟩ := at_L4 HR0_0.out x3_1 p135 q135
        cases e135
        replace hx135_0 := pc HB.out hx135_0
        have HR135_0 := am hi135_0
        have HC135_0 := am hl135_0
        clear hi135_0 hl135_0
        replace p135 := eq_true p135
        replace q135 := eq_true q135
        have p136 : 0 ≤ (x3_1 : Int) := zD
        have q136 : x3_1 < (l0_0.length : Int) := zD
        obtain ⟨ad136, A136_0, c136_0, e136, hx136_0, hl136_0, hi136_0⟩ := at_L4 HR0_0.out x3_1 p136 q136
        obtain rfl : ad135 = ad136 := (by injection e136)
        replace hx136_0 := pc HB.out hx136_0
        have HR136_0 := am hi136_0
        have HC136_0 := am hl136_0
        clear hi136_0 hl136_0
        replace p136 := eq_true p136
        replace q136 := eq_true q136
        have ea_ := oi (hx135_0.symm.trans hx136_0)
        injection ea_ with ea_ en_ ec_
        subst ea_
        subst ec_
        clear en_
        have p137 : 0 ≤ (x4_3 : Int) := zD
        have q137 : x4_3 < ((rd_L4 l0_0 x3_1).length : Int) := zD
        obtain ⟨ad137, e137, hx137_0, hx137_1, hx137_2⟩ := at_T71 HR136_0.out x4_3 p137 q137
        cases e137
        replace hx137_0 := pc HB.out hx137_0
        replace hx137_1 := pc HB.out hx137_1
        replace hx137_2 := pc HB.out hx137_2
        replace p137 := eq_true p137
        replace q137 := eq_true q137
        go_wp2_with (first | ((with_reducible refine gate_dst (N := 5) rfl ?_); refine box_event ?hg (N := 5) ?hd (cs := #[.int .i64 0, .int .i64 0, .int .i64 0]) (t := 71) ?hr ?_; (case hd => rfl); (case hg => rfl); (case hr => first | (go_simp; done) | (go_simp; rfl)); intro gb138 hg w35 hbox hb; have n0_ := am (Bk4 (g := gb129) (o := .cells #[.slice (some ad135) l0_0.length c0_0] 29 (0, 0)) (zK BK129) hb); have n1_ := am (Bb6 (by repeat (first | (with_reducible first | exact HB.out | apply Bb1 | apply Bb2 | apply Bb3 | refine Bb4 ?_ GE129.out) | exact HB.out)) hb); have n2_ := am (hbox); have n3_ := am ((by rw [hg]; exact (Bb5 (by repeat (first | (with_reducible first | exact HB.out | apply Bb1 | apply Bb2 | apply Bb3 | refine Bb4 ?_ GE129.out) | exact HB.out))) : w.heap.size ≤ gb138)); have n4_ := n3_; have n5_ := am ((by rw [hg]; exact nl (Bk5 (g := gb129) (o := .cells #[.slice (some ad135) l0_0.length c0_0] 29 (0, 0)) (zK BK129)) : gb129 ≠ gb138)); have n6_ := am ((by rw [hg]; exact ng (Bk5 (g := gb129) (o := .cells #[.slice (some ad135) l0_0.length c0_0] 29 (0, 0)) (zK BK129)) : gb138 ≠ gb129)); clear BK129; clear HB; have BK129 := n0_; have HB := n1_; have BK138 := n2_; have GW138 := n3_; have GE138 := n4_; have NB129_138 := n5_; have NB138_129 := n6_; clear n0_ n1_ n2_ n3_ n4_ n5_ n6_; clear hb hbox hg; have hnb36 := NB138_129.out; have hnc36 := NB129_138.out; have hcz37_0 : w35.cell? ⟨gb138, 0, none⟩ = some (.int .i64 0) := (kc BK138.out 0).trans rfl; have hcz37_1 : w35.cell? ⟨gb138, 1, none⟩ = some (.int .i64 0) := (kc BK138.out 1).trans rfl; have hcz37_2 : w35.cell? ⟨gb138, 2, none⟩ = some (.int .i64 0) := (kc BK138.out 2).trans rfl; have hfz37_0 := kf BK138.out 0; have hfz37_1 := kf BK138.out 1; have hfz37_2 := kf BK138.out 2) | ((with_reducible refine gate_callee (f := 54) rfl ?_); refine goesL_ (some 55) rfl rfl Try.func54 (by kernel_rfl) rfl #[.int .i64 ((rd_T71 (rd_L4 l0_0 x3_1) x4_3).f0), .int .i64 0, .int .i64 7] rfl zL ?_; (with_reducible refine (spec_l01In.calls ((rd_T71 (rd_L4 l0_0 x3_1) x4_3).f0) 0 7 true _ A24.out).mono ?_); rintro e w' ⟨rfl, ⟨nd, rfl⟩⟩; refine ⟨_, rfl, ?_⟩) | (go_at_call 54; (with_reducible refine (spec_l01In.calls ((rd_T71 (rd_L4 l0_0 x3_1) x4_3).f1) 0 7 true _ A26.out).mono ?_); rintro e w' ⟨rfl, ⟨nd, rfl⟩⟩) | (go_at_call 54; (with_reducible refine (spec_l01In.calls ((rd_T71 (rd_L4 l0_0 x3_1) x4_3).f2) 0 7 false _ A28.out).mono ?_); rintro e w' ⟨rfl, ⟨nd, rfl⟩⟩))
        go_ret
        exact ⟨zE, by repeat (first | (with_reducible first | exact HB.out | apply Bb1 | apply Bb2 | apply Bb3 | refine Bb4 ?_ GE129.out | refine Bb4 ?_ GE138.out) | exact HB.out)⟩
       subst c29
       have H1 : (spec_IsAssembly.l1 k3 x3_1 (wrap64 (x4_3 + 1)) l0_0) = some r := by first | (rw [if_pos rfl] at H; exact H) | rfl
       clear H
       have H := H1
       clear H1
       have H' := am H
       clear H
       have hcz30_0 : wr.cell? ⟨gb129, 0, none⟩ = some (.slice A0_0 l0_0.length c0_0) := (kc BK129.out 0).trans rfl
       have hfz30_0 := kf BK129.out 0
       have p135 : 0 ≤ (x3_1 : Int) := zD
       have q135 : x3_1 < (l0_0.length : Int) := zD
       obtain ⟨ad135, A135_0, c135_0, e135, hx135_0, hl135_0, hi135_0⟩ := at_L4 HR0_0.out x3_1 p135 q135
       cases e135
       replace hx135_0 := pc HB.out hx135_0
       have HR135_0 := am hi135_0
       have HC135_0 := am hl135_0
       clear hi135_0 hl135_0
       replace p135 := eq_true p135
       replace q135 := eq_true q135
       have p136 : 0 ≤ (x3_1 : Int) := zD
       have q136 : x3_1 < (l0_0.length : Int) := zD
       obtain ⟨ad136, A136_0, c136_0, e136, hx136_0, hl136_0, hi136_0⟩ := at_L4 HR0_0.out x3_1 p136 q136
       obtain rfl : ad135 = ad136 := (by injection e136)
       replace hx136_0 := pc HB.out hx136_0
       have HR136_0 := am hi136_0
       have HC136_0 := am hl136_0
       clear hi136_0 hl136_0
       replace p136 := eq_true p136
       replace q136 := eq_true q136
       have ea_ := oi (hx135_0.symm.trans hx136_0)
       injection ea_ with ea_ en_ ec_
       subst ea_
       subst ec_
       clear en_
       have p137 : 0 ≤ (x4_3 : Int) := zD
       have q137 : x4_3 < ((rd_L4 l0_0 x3_1).length : Int) := zD
       obtain ⟨ad137, e137, hx137_0, hx137_1, hx137_2⟩ := at_T71 HR136_0.out x4_3 p137 q137
       cases e137
       replace hx137_0 := pc HB.out hx137_0
       replace hx137_1 := pc HB.out hx137_1
       replace hx137_2 := pc HB.out hx137_2
       replace p137 := eq_true p137
       replace q137 := eq_true q137
       go_wp2_with (first | ((with_reducible refine gate_dst (N := 5) rfl ?_); refine box_event ?hg (N := 5) ?hd (cs := #[.int .i64 0, .int .i64 0, .int .i64 0]) (t := 71) ?hr ?_; (case hd => rfl); (case hg => rfl); (case hr => first | (go_simp; done) | (go_simp; rfl)); intro gb138 hg w31 hbox hb; have n0_ := am (Bk4 (g := gb129) (o := .cells #[.slice (some ad135) l0_0.length c0_0] 29 (0, 0)) (zK BK129) hb); have n1_ := am (Bb6 (by repeat (first | (with_reducible first | exact HB.out | apply Bb1 | apply Bb2 | apply Bb3 | refine Bb4 ?_ GE129.out) | exact HB.out)) hb); have n2_ := am (hbox); have n3_ := am ((by rw [hg]; exact (Bb5 (by repeat (first | (with_reducible first | exact HB.out | apply Bb1 | apply Bb2 | apply Bb3 | refine Bb4 ?_ GE129.out) | exact HB.out))) : w.heap.size ≤ gb138)); have n4_ := n3_; have n5_ := am ((by rw [hg]; exact nl (Bk5 (g := gb129) (o := .cells #[.slice (some ad135) l0_0.length c0_0] 29 (0, 0)) (zK BK129)) : gb129 ≠ gb138)); have n6_ := am ((by rw [hg]; exact ng (Bk5 (g := gb129) (o := .cells #[.slice (some ad135) l0_0.length c0_0] 29 (0, 0)) (zK BK129)) : gb138 ≠ gb129)); clear BK129; clear HB; have BK129 := n0_; have HB := n1_; have BK138 := n2_; have GW138 := n3_; have GE138 := n4_; have NB129_138 := n5_; have NB138_129 := n6_; clear n0_ n1_ n2_ n3_ n4_ n5_ n6_; clear hb hbox hg; have hnb32 := NB138_129.out; have hnc32 := NB129_138.out; have hcz33_0 : w31.cell? ⟨gb138, 0, none⟩ = some (.int .i64 0) := (kc BK138.out 0).trans rfl; have hcz33_1 : w31.cell? ⟨gb138, 1, none⟩ = some (.int .i64 0) := (kc BK138.out 1).trans rfl; have hcz33_2 : w31.cell? ⟨gb138, 2, none⟩ = some (.int .i64 0) := (kc BK138.out 2).trans rfl; have hfz33_0 := kf BK138.out 0; have hfz33_1 := kf BK138.out 1; have hfz33_2 := kf BK138.out 2) | ((with_reducible refine gate_callee (f := 54) rfl ?_); refine goesL_ (some 55) rfl rfl Try.func54 (by kernel_rfl) rfl #[.int .i64 ((rd_T71 (rd_L4 l0_0 x3_1) x4_3).f0), .int .i64 0, .int .i64 7] rfl zL ?_; (with_reducible refine (spec_l01In.calls ((rd_T71 (rd_L4 l0_0 x3_1) x4_3).f0) 0 7 true _ A24.out).mono ?_); rintro e w' ⟨rfl, ⟨nd, rfl⟩⟩; refine ⟨_, rfl, ?_⟩) | (go_at_call 54; (with_reducible refine (spec_l01In.calls ((rd_T71 (rd_L4 l0_0 x3_1) x4_3).f1) 0 7 true _ A26.out).mono ?_); rintro e w' ⟨rfl, ⟨nd, rfl⟩⟩) | (go_at_call 54; (with_reducible refine (spec_l01In.calls ((rd_T71 (rd_L4 l0_0 x3_1) x4_3).f2) 0 7 true _ A28.out).mono ?_); rintro e w' ⟨rfl, ⟨nd, rfl⟩⟩))
       go_roundg k3
       case measure => have := HK1.out; have := HJ6.out; have := HK3.out; omega
       case rel => exact ⟨(wrap64 (x4_3 + 1)), zS, H', ⟨by have := HK1.out; have := HJ6.out; have := HK3.out; omega⟩, ⟨by (with_reducible repeat (first | refine Bk2 ?_ _ | refine Bk3 ?_ | refine Bk1 ?_ _)); refine blk_far ?_ NB129_138.out _; (with_reducible repeat (first | refine Bk2 ?_ _ | refine Bk3 ?_ | refine Bk1 ?_ _)); refine blk_far ?_ NB129_138.out _; (with_reducible repeat (first | refine Bk2 ?_ _ | refine Bk3 ?_ | refine Bk1 ?_ _)); refine blk_far ?_ NB129_138.out _; (with_reducible repeat (first | refine Bk2 ?_ _ | refine Bk3 ?_ | refine Bk1 ?_ _)); exact BK129.out⟩, ⟨by repeat (first | (with_reducible first | exact HB.out | apply Bb1 | apply Bb2 | apply Bb3 | refine Bb4 ?_ GE129.out | refine Bb4 ?_ GE138.out) | exact HB.out)⟩⟩
      rw [if_neg c22] at H
      have c22b0 : decide (x4_3 < ((rd_L4 l0_0 x3_1).length : Int)) = false := decide_eq_false c22
      clear c22
      have H' := am H
      clear H
      have hcz46_0 : wr.cell? ⟨gb129, 0, none⟩ = some (.slice A0_0 l0_0.length c0_0) := (kc BK129.out 0).trans rfl
      have hfz46_0 := kf BK129.out 0
      have p135 : 0 ≤ (x3_1 : Int) := zD
      have q135 : x3_1 < (l0_0.length : Int) := zD
      obtain ⟨ad135, A135_0, c135_0, e135, hx135_0, hl135_0, hi135_0⟩ := at_L4 HR0_0.out x3_1 p135 q135
      cases e135
      replace hx135_0 := pc HB.out hx135_0
      have HR135_0 := am hi135_0
      have HC135_0 := am hl135_0
      clear hi135_0 hl135_0
      replace p135 := eq_true p135
      replace q135 := eq_true q135
      go_wp2
      go_loopg [6] k3 (fun kq v6 w' => ∃ (x6_4 : Int), v6 = .int .i64 x6_4 ∧ Aside0 (spec_IsAssembly.l2 kq x3_1 x6_4 l0_0 = some r) ∧ Aside0 (kq ≤ k3) ∧ Aside0 (w'.heap[gb129]? = some (.cells #[(.slice (some ad135) l0_0.length c0_0)] 29 (0, 0))) ∧ Aside0 (Below w.heap.size w w'))
      case atStart => exact ⟨(0), zS, H', ⟨Nat.le_refl _⟩, ⟨zK BK129⟩, ⟨by repeat (first | (with_reducible first | exact HB.out | apply Bb1 | apply Bb2 | apply Bb3 | refine Bb4 ?_ GE129.out) | exact HB.out)⟩⟩
      case round =>
       clear H'
       try clear c1
       try clear p1
       try clear q1
       try clear hx1
       try clear c2
       try clear p2
       try clear c3
       try clear c4
       try clear c5
       try clear c6
       try clear c6b0
       try clear p6
       try clear c9
       try clear c9b0
       try clear c11
       try clear c13
       try clear p13
       try clear q13
       try clear hx13
       try clear c14
       try clear c19
       try clear c20
       try clear c20b0
       try clear c21
       try clear c21b0
       try clear c22
       try clear c22b0
       try clear c23
       try clear c23b0
       try clear c25
       try clear c27
       try clear c29
       try clear c32
       try clear c36
       try clear c40
       try clear c44
       try clear hcz13_0
       try clear hcz15_0
       try clear hcz17_0
       try clear hcz30_0
       try clear hcz33_0
       try clear hcz33_1
       try clear hcz33_2
       try clear hcz34_0
       try clear hcz37_0
       try clear hcz37_1
       try clear hcz37_2
       try clear hcz38_0
       try clear hcz41_0
       try clear hcz41_1
       try clear hcz41_2
       try clear hcz42_0
       try clear hcz45_0
       try clear hcz45_1
       try clear hcz45_2
       try clear hcz46_0
       try clear hcz5_0
       try clear hcz8_0
       try clear hfz13_0
       try clear hfz15_0
       try clear hfz17_0
       try clear hfz30_0
       try clear hfz33_0
       try clear hfz33_1
       try clear hfz33_2
       try clear hfz34_0
       try clear hfz37_0
       try clear hfz37_1
       try clear hfz37_2
       try clear hfz38_0
       try clear hfz41_0
       try clear hfz41_1
       try clear hfz41_2
       try clear hfz42_0
       try clear hfz45_0
       try clear hfz45_1
       try clear hfz45_2
       try clear hfz46_0
       try clear hfz5_0
       try clear hfz8_0
       try clear hx131_0
       try clear hx133_0
       try clear hx135_0
       try clear hx136_0
       try clear hx137_0
       try clear hx137_1
       try clear hx137_2
       try clear p1
       try clear p13
       try clear p131
       try clear p133
       try clear p135
       try clear p136
       try clear p137
       try clear p2
       try clear q1
       try clear q13
       try clear q131
       try clear q133
       try clear q135
       try clear q136
       try clear q137
       obtain ⟨x6_4, rfl, HA, HK4, BK129, HB⟩ := hrel
       cases gk with
       | zero => exact absurd HA.out (by simp [spec_IsAssembly.l2])
       | succ k4 =>
        have H := HA.out
        clear HA
        simp only [spec_IsAssembly.l2] at H
        by_cases c47 : x6_4 < x3_1
        rotate_left
        ·rw [if_neg c47] at H
         have c47b0 : decide (x6_4 < x3_1) = false := decide_eq_false c47
         clear c47
         have H' := am H
         clear H
         go_wp2
         go_roundg k4
         case measure => have := HK1.out; have := HJ6.out; have := HK3.out; have := HK4.out; omega
         case rel => exact ⟨(wrap64 (x3_1 + 1)), zS, H', ⟨by have := HK1.out; have := HJ6.out; have := HK3.out; have := HK4.out; omega⟩, ⟨zK BK129⟩, ⟨by repeat (first | (with_reducible first | exact HB.out | apply Bb1 | apply Bb2 | apply Bb3 | refine Bb4 ?_ GE129.out) | exact HB.out)⟩⟩
        rw [if_pos c47] at H
        have c47b0 : decide (x6_4 < x3_1) = true := decide_eq_true c47
        clear c47
        by_cases c48 : 0 ≤ x3_1
        rotate_left
        ·rw [if_neg c48] at H
         exact absurd H (by simp)
        rw [if_pos c48] at H
        have c48b0 : decide (0 ≤ x3_1) = true := decide_eq_true c48
        clear c48
        by_cases c49 : x3_1 < (l0_0.length : Int)
        rotate_left
        ·rw [if_neg c49] at H
         exact absurd H (by simp)
        rw [if_pos c49] at H
        have c49b0 : decide (x3_1 < (l0_0.length : Int)) = true := decide_eq_true c49
        clear c49
        by_cases c50 : 0 ≤ x6_4
        rotate_left
        ·rw [if_neg c50] at H
         exact absurd H (by simp)
        rw [if_pos c50] at H
        have c50b0 : decide (0 ≤ x6_4) = true := decide_eq_true c50
        clear c50
        by_cases c51 : x6_4 < (l0_0.length : Int)
        rotate_left
        ·rw [if_neg c51] at H
         exact absurd H (by simp)
        rw [if_pos c51] at H
        have c51b0 : decide (x6_4 < (l0_0.length : Int)) = true := decide_eq_true c51
        clear c51
        replace H := ob H
        obtain ⟨t144, A520, H⟩ := H
        (try dsimp only at H)
        have A52 := am A520
        clear A520
        by_cases c53 : t144 = true
        ·subst c53
         have H1 : (some false) = some r := by first | (rw [if_pos rfl] at H; exact H) | rfl
         clear H
         have H := H1
         clear H1
         obtain rfl := oi H
         try go_wp2
         have n0_ := am (Bk3 BK129.out)
         have n1_ := am (Bb3 HB.out)
         clear BK129
         clear HB
         have BK129 := n0_
         have HB := n1_
         clear n0_ n1_
         have p142 : 0 ≤ (x3_1 : Int) := zD
         have q142 : x3_1 < (l0_0.length : Int) := zD
         obtain ⟨ad142, A142_0, c142_0, e142, hx142_0, hl142_0, hi142_0⟩ := at_L4 HR0_0.out x3_1 p142 q142
         have hw142_0 := hx142_0
         obtain rfl : ad135 = ad142 := (by injection e142)
         replace hx142_0 := pc HB.out hx142_0
         have HR142_0 := am hi142_0
         have HC142_0 := am hl142_0
         clear hi142_0 hl142_0
         replace p142 := eq_true p142
         replace q142 := eq_true q142
         have p143 : 0 ≤ (x6_4 : Int) := zD
         have q143 : x6_4 < (l0_0.length : Int) := zD
         obtain ⟨ad143, A143_0, c143_0, e143, hx143_0, hl143_0, hi143_0⟩ := at_L4 HR0_0.out x6_4 p143 q143
         have hw143_0 := hx143_0
         obtain rfl : ad135 = ad143 := (by injection e143)
         replace hx143_0 := pc HB.out hx143_0
         have HR143_0 := am hi143_0
         have HC143_0 := am hl143_0
         clear hi143_0 hl143_0
         replace p143 := eq_true p143
         replace q143 := eq_true q143
         refine start_ (n := 11) (S := fun w' => w'.cell? ⟨gb129, 0, none⟩ = some (.slice (some ad135) l0_0.length c0_0) ∧ w'.cell? (ad135.add (x3_1).toNat) = some (.slice A142_0 (rd_L4 l0_0 x3_1).length c142_0) ∧ w'.cell? (ad135.add (x6_4).toNat) = some (.slice A143_0 (rd_L4 l0_0 x6_4).length c143_0)) (ds := []) spec_IsAssembly.m0 (by kernel_rfl) rfl rfl ⟨(kc BK129.out 0).trans rfl, (pc HB.out hw142_0), (pc HB.out hw143_0)⟩ (fun hHeld => ?_); refine with_tabW spec_IsAssembly.tab17 spec_IsAssembly.bits17 (fun HT_ HW_ => ?_)
         generalize wr.drew = w54 at BK129 HB HR142_0 HR143_0 hx142_0 hx143_0 hHeld ⊢
         refine pure_ (i := 0) (N := some 74) (v := ?_) (a' := ?_) spec_IsAssembly.m1 rfl rfl zA (fun _ _ _ h => h) (Or.inl ⟨by rfl, ?_⟩) ?_ ?_
         rotate_left
         ·intro w'
          go_simp
          with_reducible rfl
         rotate_left
         ·exact zP
         refine pure_ (i := 2) (N := some 76) (v := ?_) (a' := ?_) spec_IsAssembly.m2 rfl rfl zA (fun _ _ _ h => h) (Or.inl ⟨by rfl, ?_⟩) ?_ ?_
         rotate_left
         ·intro w'
          go_simp
          with_reducible rfl
         rotate_left
         ·exact zP
         refine pure_ (i := 5) (N := some 79) (v := ?_) (a' := ?_) spec_IsAssembly.m3 rfl rfl zA (fun _ _ _ h => h) (Or.inl ⟨by rfl, ?_⟩) ?_ ?_
         rotate_left
         ·intro w'
          go_simp
          with_reducible rfl
         rotate_left
         ·exact zP
         refine pure_ (i := 7) (N := some 81) (v := ?_) (a' := ?_) spec_IsAssembly.m4 rfl rfl zA (fun _ _ _ h => h) (Or.inl ⟨by rfl, ?_⟩) ?_ ?_
         rotate_left
         ·intro w'
          go_simp
          with_reducible rfl
         rotate_left
         ·exact zP
         refine take_ (i := 1) (N := some 75) (v := ?_) (a' := ?_) spec_IsAssembly.m5 rfl rfl (take_ofW HT_.out HW_.out (by kernel_rfl)) (fun _ _ _ h => h) (Or.inl ⟨by rfl, ?_⟩) hHeld ?_ ?_
         rotate_left
         ·rintro w' ⟨s0, s1, s2⟩
          go_simp
          with_reducible rfl
         rotate_left
         ·exact zP
         refine pure_ (i := 3) (N := some 77) (v := ?_) (a' := ?_) spec_IsAssembly.m6 rfl rfl zA (fun _ _ _ h => h) (Or.inl ⟨by rfl, ?_⟩) ?_ ?_
         rotate_left
         ·intro w'
          go_simp
          with_reducible rfl
         rotate_left
         ·exact zP
         refine take_ (i := 4) (N := some 78) (v := ?_) (a' := ?_) spec_IsAssembly.m7 rfl rfl (take_ofW HT_.out HW_.out (by kernel_rfl)) (fun _ _ _ h => h) (Or.inl ⟨by rfl, ?_⟩) hHeld ?_ ?_
         rotate_left
         ·rintro w' ⟨s0, s1, s2⟩
          go_simp
          with_reducible rfl
         rotate_left
         ·exact zP
         refine take_ (i := 6) (N := some 80) (v := ?_) (a' := ?_) spec_IsAssembly.m8 rfl rfl (take_ofW HT_.out HW_.out (by kernel_rfl)) (fun _ _ _ h => h) (Or.inl ⟨by rfl, ?_⟩) hHeld ?_ ?_
         rotate_left
         ·rintro w' ⟨s0, s1, s2⟩
          go_simp
          with_reducible rfl
         rotate_left
         ·exact zP
         refine pure_ (i := 8) (N := some 82) (v := ?_) (a' := ?_) spec_IsAssembly.m9 rfl rfl zA (fun _ _ _ h => h) (Or.inl ⟨by rfl, ?_⟩) ?_ ?_
         rotate_left
         ·intro w'
          go_simp
          with_reducible rfl
         rotate_left
         ·exact zP
         refine take_ (i := 9) (N := some 83) (v := ?_) (a' := ?_) spec_IsAssembly.m10 rfl rfl (take_ofW HT_.out HW_.out (by kernel_rfl)) (fun _ _ _ h => h) (Or.inl ⟨by rfl, ?_⟩) hHeld ?_ ?_
         rotate_left
         ·rintro w' ⟨s0, s1, s2⟩
          go_simp
          with_reducible rfl
         rotate_left
         ·exact zP
         refine one_ (i := 10) (N := some 84) spec_IsAssembly.m11 rfl rfl (one_of HT_.out (by kernel_rfl)) (by decide) (fun K hK => ?_)
         refine goes_ Try.func57 (by kernel_rfl) rfl #[.slice A142_0 (rd_L4 l0_0 x3_1).length c142_0, .slice A143_0 (rd_L4 l0_0 x6_4).length c143_0] (by rfl) rfl rfl zL ?_
         with_reducible refine (spec_l27Meet.calls k4 _ _ (rd_L4 l0_0 x3_1) _ _ (rd_L4 l0_0 x6_4) true _ ?side1 ?side2 ?side3 ?side4 A52.out).mono ?_
         (case side1 => repeat (first | exact (Kd.C_below HR142_0.out HB.out) | (with_reducible refine Kd.C_alloc ?_ _) | (with_reducible refine Kd.C_drewN ?_ _) | (with_reducible refine Kd.C_drew ?_)))
         (case side2 => exact HC142_0.out)
         (case side3 => repeat (first | exact (Kd.C_below HR143_0.out HB.out) | (with_reducible refine Kd.C_alloc ?_ _) | (with_reducible refine Kd.C_drewN ?_ _) | (with_reducible refine Kd.C_drew ?_)))
         (case side4 => exact HC143_0.out)
         rintro e w55 ⟨rfl, hb⟩
         refine ⟨_, rfl, ?_⟩
         have n0_ := am (Bk4 (g := gb129) (o := .cells #[.slice (some ad135) l0_0.length c0_0] 29 (0, 0)) (zK BK129) hb)
         have n1_ := am (Bb6 (by repeat (first | (with_reducible first | exact HB.out | apply Bb1 | apply Bb2 | apply Bb3 | refine Bb4 ?_ GE129.out) | exact HB.out)) hb)
         clear BK129
         clear HB
         have BK129 := n0_
         have HB := n1_
         clear n0_ n1_
         (try clear hb)
         (try clear hb2)
         (try clear hk)
         (try clear hi)
         refine hK.out _ _ ⟨(kc BK129.out 0).trans rfl, (pc HB.out hw142_0), (pc HB.out hw143_0)⟩ (fun hHeld => ?_)
         clear hK K
         refine norm_ (a' := ?_) ?_ ?_
         rotate_left
         ·show Act.put _ (some 84) _ = _
          simp only [Act.put, sa, i64_w, i32_w]
          rfl
         refine done_ (done_of HT_.out (by kernel_rfl)) ?_
         try go_wp2
         go_ret
         exact ⟨zE, by repeat (first | (with_reducible first | exact HB.out | apply Bb1 | apply Bb2 | apply Bb3 | refine Bb4 ?_ GE129.out) | exact HB.out)⟩
        replace c53 := ef c53
        subst c53
        have H1 : (spec_IsAssembly.l2 k4 x3_1 (wrap64 (x6_4 + 1)) l0_0) = some r := by first | (rw [if_neg (show ¬ (false = true) by decide)] at H; exact H) | rfl
        clear H
        have H := H1
        clear H1
        have H' := am H
        clear H
        try go_wp2
        have n0_ := am (Bk3 BK129.out)
        have n1_ := am (Bb3 HB.out)
        clear BK129
        clear HB
        have BK129 := n0_
        have HB := n1_
        clear n0_ n1_
        have p142 : 0 ≤ (x3_1 : Int) := zD
        have q142 : x3_1 < (l0_0.length : Int) := zD
        obtain ⟨ad142, A142_0, c142_0, e142, hx142_0, hl142_0, hi142_0⟩ := at_L4 HR0_0.out x3_1 p142 q142
        have hw142_0 := hx142_0
        obtain rfl : ad135 = ad142 := (by injection e142)
        replace hx142_0 := pc HB.out hx142_0
        have HR142_0 := am hi142_0
        have HC142_0 := am hl142_0
        clear hi142_0 hl142_0
        replace p142 := eq_true p142
        replace q142 := eq_true q142
        have p143 : 0 ≤ (x6_4 : Int) := zD
        have q143 : x6_4 < (l0_0.length : Int) := zD
        obtain ⟨ad143, A143_0, c143_0, e143, hx143_0, hl143_0, hi143_0⟩ := at_L4 HR0_0.out x6_4 p143 q143
        have hw143_0 := hx143_0
        obtain rfl : ad135 = ad143 := (by injection e143)
        replace hx143_0 := pc HB.out hx143_0
        have HR143_0 := am hi143_0
        have HC143_0 := am hl143_0
        clear hi143_0 hl143_0
        replace p143 := eq_true p143
        replace q143 := eq_true q143
        refine start_ (n := 11) (S := fun w' => w'.cell? ⟨gb129, 0, none⟩ = some (.slice (some ad135) l0_0.length c0_0) ∧ w'.cell? (ad135.add (x3_1).toNat) = some (.slice A142_0 (rd_L4 l0_0 x3_1).length c142_0) ∧ w'.cell? (ad135.add (x6_4).toNat) = some (.slice A143_0 (rd_L4 l0_0 x6_4).length c143_0)) (ds := []) spec_IsAssembly.m0 (by kernel_rfl) rfl rfl ⟨(kc BK129.out 0).trans rfl, (pc HB.out hw142_0), (pc HB.out hw143_0)⟩ (fun hHeld => ?_); refine with_tabW spec_IsAssembly.tab17 spec_IsAssembly.bits17 (fun HT_ HW_ => ?_)
        generalize wr.drew = w56 at BK129 HB HR142_0 HR143_0 hx142_0 hx143_0 hHeld ⊢
        refine pure_ (i := 0) (N := some 74) (v := ?_) (a' := ?_) spec_IsAssembly.m1 rfl rfl zA (fun _ _ _ h => h) (Or.inl ⟨by rfl, ?_⟩) ?_ ?_
        rotate_left
        ·intro w'
         go_simp
         with_reducible rfl
        rotate_left
        ·exact zP
        refine pure_ (i := 2) (N := some 76) (v := ?_) (a' := ?_) spec_IsAssembly.m2 rfl rfl zA (fun _ _ _ h => h) (Or.inl ⟨by rfl, ?_⟩) ?_ ?_
        rotate_left
        ·intro w'
         go_simp
         with_reducible rfl
        rotate_left
        ·exact zP
        refine pure_ (i := 5) (N := some 79) (v := ?_) (a' := ?_) spec_IsAssembly.m3 rfl rfl zA (fun _ _ _ h => h) (Or.inl ⟨by rfl, ?_⟩) ?_ ?_
        rotate_left
        ·intro w'
         go_simp
         with_reducible rfl
        rotate_left
        ·exact zP
        refine pure_ (i := 7) (N := some 81) (v := ?_) (a' := ?_) spec_IsAssembly.m4 rfl rfl zA (fun _ _ _ h => h) (Or.inl ⟨by rfl, ?_⟩) ?_ ?_
        rotate_left
        ·intro w'
         go_simp
         with_reducible rfl
        rotate_left
        ·exact zP
        refine take_ (i := 1) (N := some 75) (v := ?_) (a' := ?_) spec_IsAssembly.m5 rfl rfl (take_ofW HT_.out HW_.out (by kernel_rfl)) (fun _ _ _ h => h) (Or.inl ⟨by rfl, ?_⟩) hHeld ?_ ?_
        rotate_left
        ·rintro w' ⟨s0, s1, s2⟩
         go_simp
         with_reducible rfl
        rotate_left
        ·exact zP
        refine pure_ (i := 3) (N := some 77) (v := ?_) (a' := ?_) spec_IsAssembly.m6 rfl rfl zA (fun _ _ _ h => h) (Or.inl ⟨by rfl, ?_⟩) ?_ ?_
        rotate_left
        ·intro w'
         go_simp
         with_reducible rfl
        rotate_left
        ·exact zP
        refine take_ (i := 4) (N := some 78) (v := ?_) (a' := ?_) spec_IsAssembly.m7 rfl rfl (take_ofW HT_.out HW_.out (by kernel_rfl)) (fun _ _ _ h => h) (Or.inl ⟨by rfl, ?_⟩) hHeld ?_ ?_
        rotate_left
        ·rintro w' ⟨s0, s1, s2⟩
         go_simp
         with_reducible rfl
        rotate_left
        ·exact zP
        refine take_ (i := 6) (N := some 80) (v := ?_) (a' := ?_) spec_IsAssembly.m8 rfl rfl (take_ofW HT_.out HW_.out (by kernel_rfl)) (fun _ _ _ h => h) (Or.inl ⟨by rfl, ?_⟩) hHeld ?_ ?_
        rotate_left
        ·rintro w' ⟨s0, s1, s2⟩
         go_simp
         with_reducible rfl
        rotate_left
        ·exact zP
        refine pure_ (i := 8) (N := some 82) (v := ?_) (a' := ?_) spec_IsAssembly.m9 rfl rfl zA (fun _ _ _ h => h) (Or.inl ⟨by rfl, ?_⟩) ?_ ?_
        rotate_left
        ·intro w'
         go_simp
         with_reducible rfl
        rotate_left
        ·exact zP
        refine take_ (i := 9) (N := some 83) (v := ?_) (a' := ?_) spec_IsAssembly.m10 rfl rfl (take_ofW HT_.out HW_.out (by kernel_rfl)) (fun _ _ _ h => h) (Or.inl ⟨by rfl, ?_⟩) hHeld ?_ ?_
        rotate_left
        ·rintro w' ⟨s0, s1, s2⟩
         go_simp
         with_reducible rfl
        rotate_left
        ·exact zP
        refine one_ (i := 10) (N := some 84) spec_IsAssembly.m11 rfl rfl (one_of HT_.out (by kernel_rfl)) (by decide) (fun K hK => ?_)
        refine goes_ Try.func57 (by kernel_rfl) rfl #[.slice A142_0 (rd_L4 l0_0 x3_1).length c142_0, .slice A143_0 (rd_L4 l0_0 x6_4).length c143_0] (by rfl) rfl rfl zL ?_
        with_reducible refine (spec_l27Meet.calls k4 _ _ (rd_L4 l0_0 x3_1) _ _ (rd_L4 l0_0 x6_4) false _ ?side1 ?side2 ?side3 ?side4 A52.out).mono ?_
        (case side1 => repeat (first | exact (Kd.C_below HR142_0.out HB.out) | (with_reducible refine Kd.C_alloc ?_ _) | (with_reducible refine Kd.C_drewN ?_ _) | (with_reducible refine Kd.C_drew ?_)))
        (case side2 => exact HC142_0.out)
        (case side3 => repeat (first | exact (Kd.C_below HR143_0.out HB.out) | (with_reducible refine Kd.C_alloc ?_ _) | (with_reducible refine Kd.C_drewN ?_ _) | (with_reducible refine Kd.C_drew ?_)))
        (case side4 => exact HC143_0.out)
        rintro e w57 ⟨rfl, hb⟩
        refine ⟨_, rfl, ?_⟩
        have n0_ := am (Bk4 (g := gb129) (o := .cells #[.slice (some ad135) l0_0.length c0_0] 29 (0, 0)) (zK BK129) hb)
        have n1_ := am (Bb6 (by repeat (first | (with_reducible first | exact HB.out | apply Bb1 | apply Bb2 | apply Bb3 | refine Bb4 ?_ GE129.out) | exact HB.out)) hb)
        clear BK129
        clear HB
        have BK129 := n0_
        have HB := n1_
        clear n0_ n1_
        (try clear hb)
        (try clear hb2)
        (try clear hk)
        (try clear hi)
        refine hK.out _ _ ⟨(kc BK129.out 0).trans rfl, (pc HB.out hw142_0), (pc HB.out hw143_0)⟩ (fun hHeld => ?_)
        clear hK K
        refine norm_ (a' := ?_) ?_ ?_
        rotate_left
        ·show Act.put _ (some 84) _ = _
         simp only [Act.put, sa, i64_w, i32_w]
         rfl
        refine done_ (done_of HT_.out (by kernel_rfl)) ?_
        try go_wp2
        go_roundg k4
        case measure => have := HK1.out; have := HJ6.out; have := HK3.out; have := HK4.out; omega
        case rel => exact ⟨(wrap64 (x6_4 + 1)), zS, H', ⟨by have := HK1.out; have := HJ6.out; have := HK3.out; have := HK4.out; omega⟩, ⟨zK BK129⟩, ⟨by repeat (first | (with_reducible first | exact HB.out | apply Bb1 | apply Bb2 | apply Bb3 | refine Bb4 ?_ GE129.out) | exact HB.out)⟩⟩

end Go.Proofs.Ytjgnlakgojookaa.Q
