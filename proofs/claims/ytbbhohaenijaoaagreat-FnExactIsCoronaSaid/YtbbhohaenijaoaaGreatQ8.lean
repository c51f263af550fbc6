/- Written by a program of this session (wip/tools/pp.py) out of the translation, with the kit's printer. -/
import Derived.Test.YtbbhohaenijaoaaGreatQ0
import Derived.Test.YtbbhohaenijaoaaGreatQ3
import Derived.Test.YtbbhohaenijaoaaGreatQ5
import Derived.Test.YtbbhohaenijaoaaGreatQ7
namespace Go.Proofs.YtbbhohaenijaoaaGreat.Q
open Go.RowKit Go.Proofs.YtbbhohaenijaoaaGreatW.PrintWords Go.Proofs.YtbbhohaenijaoaaGreatW.PrintLast Go.Proofs.YtbbhohaenijaoaaGreatW.PrintMore
attribute [local go_sem] max2_int min2_int max_two min_two max_three min_three max_four min_four
set_option linter.unusedVariables false
set_option linter.unusedSimpArgs false

/-! ### spec_IsCorona: function 6 -/
abbrev spec_IsCorona.m0 : Array Bool := #[z',z',z',z',z',z',z',z',z',z',z',z',z',z',z',z',z',z',z',z',z',z',z',z']
abbrev spec_IsCorona.m1 : Array Bool := #[z',o',z',z',z',z',z',z',z',z',z',z',z',z',z',z',z',z',z',z',z',z',z',z']
abbrev spec_IsCorona.m2 : Array Bool := #[z',o',o',z',z',z',z',z',z',z',z',z',z',z',z',z',z',z',z',z',z',z',z',z']
abbrev spec_IsCorona.m3 : Array Bool := #[z',o',o',o',z',z',z',z',z',z',z',z',z',z',z',z',z',z',z',z',z',z',z',z']
abbrev spec_IsCorona.m4 : Array Bool := #[o',o',o',o',z',z',z',z',z',z',z',z',z',z',z',z',z',z',z',z',z',z',z',z']
abbrev spec_IsCorona.m5 : Array Bool := #[o',o',o',o',o',z',z',z',z',z',z',z',z',z',z',z',z',z',z',z',z',z',z',z']
abbrev spec_IsCorona.m6 : Array Bool := #[o',o',o',o',o',o',z',z',z',z',z',z',z',z',z',z',z',z',z',z',z',z',z',z']
abbrev spec_IsCorona.m7 : Array Bool := #[o',o',o',o',o',o',o',z',z',z',z',z',z',z',z',z',z',z',z',z',z',z',z',z']
abbrev spec_IsCorona.m8 : Array Bool := #[o',o',o',o',o',o',o',o',z',z',z',z',z',z',z',z',z',z',z',z',z',z',z',z']
abbrev spec_IsCorona.m9 : Array Bool := #[o',o',o',o',o',o',o',o',o',z',z',z',z',z',z',z',z',z',z',z',z',z',z',z']
abbrev spec_IsCorona.m10 : Array Bool := #[o',o',o',o',o',o',o',o',o',o',z',z',z',z',z',z',z',z',z',z',z',z',z',z']
abbrev spec_IsCorona.m11 : Array Bool := #[o',o',o',o',o',o',o',o',o',o',o',z',z',z',z',z',z',z',z',z',z',z',z',z']
abbrev spec_IsCorona.m12 : Array Bool := #[o',o',o',o',o',o',o',o',o',o',o',z',o',z',z',z',z',z',z',z',z',z',z',z']
abbrev spec_IsCorona.m13 : Array Bool := #[o',o',o',o',o',o',o',o',o',o',o',o',o',z',z',z',z',z',z',z',z',z',z',z']
abbrev spec_IsCorona.m14 : Array Bool := #[o',o',o',o',o',o',o',o',o',o',o',o',o',o',z',z',z',z',z',z',z',z',z',z']
abbrev spec_IsCorona.m15 : Array Bool := #[o',o',o',o',o',o',o',o',o',o',o',o',o',o',o',z',z',z',z',z',z',z',z',z']
abbrev spec_IsCorona.m16 : Array Bool := #[o',o',o',o',o',o',o',o',o',o',o',o',o',o',o',o',z',z',z',z',z',z',z',z']
abbrev spec_IsCorona.m17 : Array Bool := #[o',o',o',o',o',o',o',o',o',o',o',o',o',o',o',o',o',z',z',z',z',z',z',z']
abbrev spec_IsCorona.m18 : Array Bool := #[o',o',o',o',o',o',o',o',o',o',o',o',o',o',o',o',o',o',z',z',z',z',z',z']
abbrev spec_IsCorona.m19 : Array Bool := #[o',o',o',o',o',o',o',o',o',o',o',o',o',o',o',o',o',o',o',z',z',z',z',z']
abbrev spec_IsCorona.m20 : Array Bool := #[o',o',o',o',o',o',o',o',o',o',o',o',o',o',o',o',o',o',o',z',o',z',z',z']
abbrev spec_IsCorona.m21 : Array Bool := #[o',o',o',o',o',o',o',o',o',o',o',o',o',o',o',o',o',o',o',o',z',z',z',z']
abbrev spec_IsCorona.m22 : Array Bool := #[o',o',o',o',o',o',o',o',o',o',o',o',o',o',o',o',o',o',o',o',o',z',z',z']
abbrev spec_IsCorona.m23 : Array Bool := #[o',o',o',o',o',o',o',o',o',o',o',o',o',o',o',o',o',o',o',o',o',o',z',z']
abbrev spec_IsCorona.m24 : Array Bool := #[o',o',o',o',o',o',o',o',o',o',o',o',o',o',o',o',o',o',o',o',o',o',o',z']
abbrev spec_IsCorona.m25 : Array Bool := #[o',o',o',o',o',o',o',o',o',o',o',o',o',o',o',o',o',o',o',o',o',o',o',o']
def spec_IsCorona.l0 : Nat → List (List (S44)) → List (S44) → List (S44) → Int → List (S44) → Int → Bool → Option (Bool)
 | 0, _, _, _, _, _, _, _ => none
 | k + 1, x1, x5, x6, x7, x305000, x305001, x305002 => if x7 < (x1.length : Int) then (if 0 ≤ x7 then ((spec_l26Copy.f k x305000 x305001 x305002 (rd_L4 x1 x7)).bind fun t320 => (if t320 = true then ((spec_l02Meet.f k (rd_L4 x1 x7) x6).bind fun t322 => (if t322 = true then (some false) else ((spec_l02Meet.f k (rd_L4 x1 x7) x5).bind fun t324 => (if t324 = true then (if x6.length + (rd_L4 x1 x7).length < 8796093022208 then (spec_IsCorona.l0 k x1 x5 (x6 ++ (rd_L4 x1 x7)) (wrap64 (x7 + 1)) x305000 x305001 x305002) else (none)) else (some false))))) else (some false))) else (none)) else ((spec_l26Free.f k x5 x6).bind fun bt315 => (some (!bt315.2.2)))
def spec_IsCorona.f (k : Nat) (l0_0 : List (S44)) (a0_1 : Int) (a0_2 : Bool) (l1 : List (List (S44))) : Option (Bool) := (spec_IsPiece.f k l0_0 a0_1 a0_2).bind fun t305 => (if t305 = true then ((spec_l26Ring.f k l0_0).bind fun t306 => ((some (([] : List (S44)) : List (S44))).bind fun y309 => (if y309.length + l0_0.length < 8796093022208 then (spec_IsCorona.l0 k l1 t306 (y309 ++ l0_0) 0 l0_0 a0_1 a0_2) else (none)))) else (some false))
theorem spec_IsCorona.mono_l : ∀ k, (∀ y0 y1 y2 y3 y4 y5 y6, LeO (spec_IsCorona.l0 k y0 y1 y2 y3 y4 y5 y6) (spec_IsCorona.l0 (k + 1) y0 y1 y2 y3 y4 y5 y6))
 | 0 => fun _ _ _ _ _ _ _ r h => by simp [spec_IsCorona.l0] at h
 | k + 1 => by
  have ih0 := spec_IsCorona.mono_l k
  ·intro y0 y1 y2 y3 y4 y5 y6
   unfold spec_IsCorona.l0
   with_reducible repeat' first | exact ih0 _ _ _ _ _ _ _ | exact spec_IsPiece.mono _ _ _ _ | exact spec_l02Meet.mono _ _ _ | exact spec_l26Copy.mono _ _ _ _ _ | exact spec_l26Free.mono _ _ _ | exact spec_l26Ring.mono _ _ | exact LeO.refl _ | exact LeO.none _ | refine LeO.ite ?_ ?_ | refine LeO.bind ?_ (fun _ => ?_)
theorem spec_IsCorona.mono : ∀ a0 a1 a2 a3 k, LeO (spec_IsCorona.f k a0 a1 a2 a3) (spec_IsCorona.f (k + 1) a0 a1 a2 a3) := by
 intro a0 a1 a2 a3 k
 have ih0 := spec_IsCorona.mono_l k
 unfold spec_IsCorona.f
 with_reducible repeat' first | exact ih0 _ _ _ _ _ _ _ | exact spec_IsPiece.mono _ _ _ _ | exact spec_l02Meet.mono _ _ _ | exact spec_l26Copy.mono _ _ _ _ _ | exact spec_l26Free.mono _ _ _ | exact spec_l26Ring.mono _ _ | exact LeO.refl _ | exact LeO.none _ | refine LeO.ite ?_ ?_ | refine LeO.bind ?_ (fun _ => ?_)
def spec_IsCorona.T8 : Bool × List (List Nat × List Nat) := (true, [([], []), ([], []), ([], []), ([1, 2], [1, 2]), ([3], [3]), ([0, 4], [0, 4]), ([5], [5]), ([6, 5], [6]), ([7], [7]), ([7], [7]), ([8, 9, 7], [7, 8, 9]), ([10, 7], [7, 10]), ([7], [7]), ([11, 12, 7, 7], [7, 11, 12]), ([7, 13], [7, 13]), ([14, 13], [14]), ([15], [15]), ([15], [15]), ([16, 17, 15], [15, 16, 17]), ([18, 15], [15, 18]), ([15], [15]), ([19, 20, 15, 15], [15, 19, 20]), ([21, 15], [15, 21]), ([15, 22], [15, 22])])
def spec_IsCorona.B8 : List Nat := [0, 0, 0, 6, 14, 31, 63, 127, 255, 255, 1023, 2047, 255, 8191, 16383, 32767, 65535, 65535, 262143, 524287, 65535, 2097151, 4194303, 8388607]
theorem spec_IsCorona.tab8 : rtab .any (opsOf Tryz.f6 8) = spec_IsCorona.T8 := by kernel_rfl
theorem spec_IsCorona.bits8 : waitsOk spec_IsCorona.T8.2 spec_IsCorona.B8 = true := by kernel_rfl
set_option maxHeartbeats 8000000 in
set_option maxRecDepth 100000 in
theorem spec_IsCorona.calls (k : Nat) (A0_0 : Option Addr) (c0_0 : Nat) (l0_0 : List (S44)) (a0_1 : Int) (a0_2 : Bool) (A1 : Option Addr) (c1 : Nat) (l1 : List (List (S44))) (r : Bool) (w : World) (hr0_0 : Kd.C k44 w A0_0 l0_0.length l0_0) (hc0_0 : l0_0.length ≤ c0_0) (hr1 : Kd.C (Kd.slice 44 k44) w A1 l1.length l1) (hc1 : l1.length ≤ c1) (h : spec_IsCorona.f k l0_0 a0_1 a0_2 l1 = some r) :
  Calls Tryz.prog 6 #[.agg #[.slice A0_0 l0_0.length c0_0, .int .i64 a0_1, .bool a0_2], .slice A1 l1.length c1] w fun e w' => e = .returned (.bool r) ∧ Below w.heap.size w w' := by
 have hu31 := Tryz.underlying31
 have hu44 := Tryz.underlying44
 have HR0_0 := am hr0_0
 have HC0_0 := am hc0_0
 clear hr0_0 hc0_0
 have HR1 := am hr1
 have HC1 := am hc1
 clear hr1 hc1
 have HB := am (Below.refl w.heap.size w)
 have H : ((spec_IsPiece.f k l0_0 a0_1 a0_2).bind fun t305 => (if t305 = true then ((spec_l26Ring.f k l0_0).bind fun t306 => ((some (([] : List (S44)) : List (S44))).bind fun y309 => (if y309.length + l0_0.length < 8796093022208 then (spec_IsCorona.l0 k l1 t306 (y309 ++ l0_0) 0 l0_0 a0_1 a0_2) else (none)))) else (some false))) = some r := h
 clear h
 replace H := ob H
 obtain ⟨t305, A30, H⟩ := H
 (try dsimp only at H)
 have A3 := am A30
 clear A30
 by_cases c4 : t305 = true
 rotate_left
 ·replace c4 := ef c4
  subst c4
  have H1 : (some false) = some r := by first | (rw [if_neg (show ¬ (false = true) by decide)] at H; exact H) | rfl
  clear H
  have H := H1
  clear H1
  obtain rfl := oi H
  go_enter Tryz.func6, Tryz.ntmps6
  go_wp2_with (first | ((with_reducible refine gate_dst (N := 2) rfl ?_); refine box_event ?hg (N := 2) ?hd (cs := #[.slice A0_0 l0_0.length c0_0, .int .i64 a0_1, .bool a0_2]) (t := 31) ?hr ?_; (case hd => rfl); (case hg => rfl); (case hr => first | (go_simp; done) | (go_simp; rfl)); intro gb304 hg w51 hbox hb; have n0_ := am (Bb6 zB hb); have n1_ := am (hbox); have n2_ := am ((by rw [hg]; exact (Bb5 zB) : w.heap.size ≤ gb304)); have n3_ := n2_; clear HB; have HB := n0_; have BK304 := n1_; have GW304 := n2_; have GE304 := n3_; clear n0_ n1_ n2_ n3_; clear hb hbox hg; have hcz52_0 : w51.cell? ⟨gb304, 0, none⟩ = some (.slice A0_0 l0_0.length c0_0) := (kc BK304.out 0).trans rfl; have hcz52_1 : w51.cell? ⟨gb304, 1, none⟩ = some (.int .i64 a0_1) := (kc BK304.out 1).trans rfl; have hcz52_2 : w51.cell? ⟨gb304, 2, none⟩ = some (.bool a0_2) := (kc BK304.out 2).trans rfl; have hfz52_0 := kf BK304.out 0; have hfz52_1 := kf BK304.out 1; have hfz52_2 := kf BK304.out 2) | ((with_reducible refine gate_callee (f := 13) rfl ?_); refine goesL_ (some 11) rfl rfl Tryz.func13 (by kernel_rfl) rfl #[.agg #[.slice A0_0 l0_0.length c0_0, .int .i64 a0_1, .bool a0_2]] rfl zL ?_; (with_reducible refine (spec_IsPiece.calls k _ _ l0_0 a0_1 a0_2 false _ ?side1 ?side2 A3.out).mono ?_); (case side1 => repeat (first | exact (Kd.C_below HR0_0.out HB.out) | (with_reducible refine Kd.C_alloc ?_ _) | (with_reducible refine Kd.C_drewN ?_ _) | (with_reducible refine Kd.C_drew ?_))); (case side2 => exact HC0_0.out); rintro e w53 ⟨rfl, hb⟩; refine ⟨_, rfl, ?_⟩; have n0_ := am (Bk4 (g := gb304) (o := .cells #[.slice A0_0 l0_0.length c0_0, .int .i64 a0_1, .bool a0_2] 31 (0, 0)) (zK BK304) hb); have n1_ := am (Bb6 (by repeat (first | (with_reducible first | exact HB.out | apply Bb1 | apply Bb2 | apply Bb3 | refine Bb4 ?_ GE304.out) | exact HB.out)) hb); clear BK304; clear HB; have BK304 := n0_; have HB := n1_; clear n0_ n1_; (try clear hb); (try clear hb2); (try clear hk); (try clear hi)))
  go_ret
  exact ⟨zE, by repeat (first | (with_reducible first | exact HB.out | apply Bb1 | apply Bb2 | apply Bb3 | refine Bb4 ?_ GE304.out) | exact HB.out)⟩
 subst c4
 have H1 : ((spec_l26Ring.f k l0_0).bind fun t306 => ((some (([] : List (S44)) : List (S44))).bind fun y309 => (if y309.length + l0_0.length < 8796093022208 then (spec_IsCorona.l0 k l1 t306 (y309 ++ l0_0) 0 l0_0 a0_1 a0_2) else (none)))) = some r := by first | (rw [if_pos rfl] at H; exact H) | rfl
 clear H
 have H := H1
 clear H1
 replace H := ob H
 obtain ⟨t306, A50, H⟩ := H
 (try dsimp only at H)
 have A5 := am A50
 clear A50
 obtain ⟨y309, hy309⟩ : ∃ y_ : List (S44), y_ = (([] : List (S44))) := ⟨_, rfl⟩
 replace H : (if y309.length + l0_0.length < 8796093022208 then (spec_IsCorona.l0 k l1 t306 (y309 ++ l0_0) 0 l0_0 a0_1 a0_2) else (none)) = some r := by first | (rw [hy309]; with_reducible exact H) | (have H2_ := (Option.bind_some _ _).symm.trans H; rw [hy309]; with_reducible exact H2_) | (have H2_ := (Option.bind_some _ _).symm.trans H; with_reducible exact H2_) | with_reducible exact H | (rw [hy309]; exact H) | exact H
 have Ny309 := am hy309
 clear hy309
 by_cases c6 : y309.length + l0_0.length < 8796093022208
 rotate_left
 ·rw [if_neg c6] at H
  exact absurd H (by simp)
 rw [if_pos c6] at H
 have LMc6 := am c6
 clear c6
 obtain ⟨y312, hy312⟩ : ∃ y_ : List (S44), y_ = (y309 ++ l0_0) := ⟨_, rfl⟩
 replace H : (spec_IsCorona.l0 k l1 t306 y312 0 l0_0 a0_1 a0_2) = some r := by first | (rw [hy312]; with_reducible exact H) | (have H2_ := (Option.bind_some _ _).symm.trans H; rw [hy312]; with_reducible exact H2_) | (have H2_ := (Option.bind_some _ _).symm.trans H; with_reducible exact H2_) | with_reducible exact H | (rw [hy312]; exact H) | exact H
 have Ny312 := am hy312
 clear hy312
 have H' := am H
 clear H
 go_enter Tryz.func6, Tryz.ntmps6
 go_wp2_with (first | ((with_reducible refine gate_dst (N := 2) rfl ?_); refine box_event ?hg (N := 2) ?hd (cs := #[.slice A0_0 l0_0.length c0_0, .int .i64 a0_1, .bool a0_2]) (t := 31) ?hr ?_; (case hd => rfl); (case hg => rfl); (case hr => first | (go_simp; done) | (go_simp; rfl)); intro gb304 hg w7 hbox hb; have n0_ := am (Bb6 zB hb); have n1_ := am (hbox); have n2_ := am ((by rw [hg]; exact (Bb5 zB) : w.heap.size ≤ gb304)); have n3_ := n2_; clear HB; have HB := n0_; have BK304 := n1_; have GW304 := n2_; have GE304 := n3_; clear n0_ n1_ n2_ n3_; clear hb hbox hg; have hcz8_0 : w7.cell? ⟨gb304, 0, none⟩ = some (.slice A0_0 l0_0.length c0_0) := (kc BK304.out 0).trans rfl; have hcz8_1 : w7.cell? ⟨gb304, 1, none⟩ = some (.int .i64 a0_1) := (kc BK304.out 1).trans rfl; have hcz8_2 : w7.cell? ⟨gb304, 2, none⟩ = some (.bool a0_2) := (kc BK304.out 2).trans rfl; have hfz8_0 := kf BK304.out 0; have hfz8_1 := kf BK304.out 1; have hfz8_2 := kf BK304.out 2) | ((with_reducible refine gate_callee (f := 13) rfl ?_); refine goesL_ (some 11) rfl rfl Tryz.func13 (by kernel_rfl) rfl #[.agg #[.slice A0_0 l0_0.length c0_0, .int .i64 a0_1, .bool a0_2]] rfl zL ?_; (with_reducible refine (spec_IsPiece.calls k _ _ l0_0 a0_1 a0_2 true _ ?side1 ?side2 A3.out).mono ?_); (case side1 => repeat (first | exact (Kd.C_below HR0_0.out HB.out) | (with_reducible refine Kd.C_alloc ?_ _) | (with_reducible refine Kd.C_drewN ?_ _) | (with_reducible refine Kd.C_drew ?_))); (case side2 => exact HC0_0.out); rintro e w9 ⟨rfl, hb⟩; refine ⟨_, rfl, ?_⟩; have n0_ := am (Bk4 (g := gb304) (o := .cells #[.slice A0_0 l0_0.length c0_0, .int .i64 a0_1, .bool a0_2] 31 (0, 0)) (zK BK304) hb); have n1_ := am (Bb6 (by repeat (first | (with_reducible first | exact HB.out | apply Bb1 | apply Bb2 | apply Bb3 | refine Bb4 ?_ GE304.out) | exact HB.out)) hb); clear BK304; clear HB; have BK304 := n0_; have HB := n1_; clear n0_ n1_; (try clear hb); (try clear hb2); (try clear hk); (try clear hi); have hcz10_0 : w9.cell? ⟨gb304, 0, none⟩ = some (.slice A0_0 l0_0.length c0_0) := (kc BK304.out 0).trans rfl; have hcz10_1 : w9.cell? ⟨gb304, 1, none⟩ = some (.int .i64 a0_1) := (kc BK304.out 1).trans rfl; have hcz10_2 : w9.cell? ⟨gb304, 2, none⟩ = some (.bool a0_2) := (kc BK304.out 2).trans rfl; have hfz10_0 := kf BK304.out 0; have hfz10_1 := kf BK304.out 1; have hfz10_2 := kf BK304.out 2) | ((with_reducible refine gate_callee (f := 14) rfl ?_); refine goesL_ (some 15) rfl rfl Tryz.func14 (by kernel_rfl) rfl #[.slice A0_0 l0_0.length c0_0] rfl zL ?_; (with_reducible refine (spec_l26Ring.calls k _ _ l0_0 t306 _ ?side1 ?side2 A5.out).mono ?_); (case side1 => repeat (first | exact (Kd.C_below HR0_0.out HB.out) | (with_reducible refine Kd.C_alloc ?_ _) | (with_reducible refine Kd.C_drewN ?_ _) | (with_reducible refine Kd.C_drew ?_))); (case side2 => exact HC0_0.out); rintro e w11 ⟨v307, rfl, ho0, hb⟩; refine ⟨_, rfl, ?_⟩; have n0_ := am (Kd.R_lower ho0 (Bb5 (by repeat (first | (with_reducible first | exact HB.out | apply Bb1 | apply Bb2 | apply Bb3 | refine Bb4 ?_ GE304.out) | exact HB.out)))); have n1_ := am (Bk4 (g := gb304) (o := .cells #[.slice A0_0 l0_0.length c0_0, .int .i64 a0_1, .bool a0_2] 31 (0, 0)) (zK BK304) hb); have n2_ := am (Bb6 (by repeat (first | (with_reducible first | exact HB.out | apply Bb1 | apply Bb2 | apply Bb3 | refine Bb4 ?_ GE304.out) | exact HB.out)) hb); clear BK304; clear HB; have HO308 := n0_; have BK304 := n1_; have HB := n2_; clear n0_ n1_ n2_; (try clear hb); (try clear hb2); (try clear hk); (try clear hi); (try clear ho0)) | ((with_reducible refine gate_dst (N := 16) rfl ?_); refine Kd.R_lit k44 _ 44 ?hg (N := 16) ?hd (xs := ([] : List (S44))) (inner := []) (ok := fun _ => True) (okp := fun _ => True) ?hr ?hp (fun _ hk => hk) trivial (Below.refl _ _) (Nat.le_refl _) (by simp) ?_; (case hd => rfl); (case hg => rfl); (case hr => first | (go_simp; done) | (go_simp; rfl)); (case hp => exact (Reps.none _ _)); intro v310 w12 ho13 hb hg_ hnew_; clear hg_ hnew_; (first | rw [← Ny309.out] at ho13 | (simp only [Int.reduceToNat] at ho13; rw [← Ny309.out] at ho13)); have n0_ := am (Kd.R_elder' (zR HO308) (Kd.R_base ho13) hb); have n1_ := am (Kd.R_lower (Kd.R_new' ho13 (Kd.R_lt (zR HO308))) (Bb5 (by repeat (first | (with_reducible first | exact HB.out | apply Bb1 | apply Bb2 | apply Bb3 | refine Bb4 ?_ GE304.out) | exact HB.out)))); have n2_ := am (Bk4 (g := gb304) (o := .cells #[.slice A0_0 l0_0.length c0_0, .int .i64 a0_1, .bool a0_2] 31 (0, 0)) (zK BK304) hb); have n3_ := am (Bb6 (by repeat (first | (with_reducible first | exact HB.out | apply Bb1 | apply Bb2 | apply Bb3 | refine Bb4 ?_ GE304.out) | exact HB.out)) hb); clear HO308; clear BK304; clear HB; have HO308 := n0_; have HO311 := n1_; have BK304 := n2_; have HB := n3_; clear n0_ n1_ n2_ n3_; clear hb ho13; have hcz14_0 : w12.cell? ⟨gb304, 0, none⟩ = some (.slice A0_0 l0_0.length c0_0) := (kc BK304.out 0).trans rfl; have hcz14_1 : w12.cell? ⟨gb304, 1, none⟩ = some (.int .i64 a0_1) := (kc BK304.out 1).trans rfl; have hcz14_2 : w12.cell? ⟨gb304, 2, none⟩ = some (.bool a0_2) := (kc BK304.out 2).trans rfl; have hfz14_0 := kf BK304.out 0; have hfz14_1 := kf BK304.out 1; have hfz14_2 := kf BK304.out 2) | ((with_reducible refine gate_builtin (b := .append) (xs := #[.tmp 16, .tmp 18]) rfl ?_); at_builtin; refine Kd.R_append_rows k44 (w0 := w) w.heap.size rfl (.tmp 16) (.tmp 18) 29 44 (.agg #[(.int .i64 0), (.int .i64 0)]) 16 rfl Tryz.underlying29 info44 rfl (by decide) (by omega) v310 y309 l0_0 _ _ _ (fun k_ => some k_ ≠ (v307 : Value).ownBlock) (fun _ => False) rfl rfl ?aO ?aR (fun _ _ h => h) (fun _ h => h.elim) ?aF ?aB ?aS ?aL ?_; (case aR => repeat (first | exact (Kd.C_below HR0_0.out HB.out) | (with_reducible refine Kd.C_alloc ?_ _) | (with_reducible refine Kd.C_drewN ?_ _) | (with_reducible refine Kd.C_drew ?_))); (case aB => exact (by repeat (first | (with_reducible first | exact HB.out | apply Bb1 | apply Bb2 | apply Bb3 | refine Bb4 ?_ GE304.out) | exact HB.out))); (case aF => exact (fun k_ hk => Kd.fresh' (Kd.R_lt (zR HO308)) k_ hk)); (case aO => exact (by (with_reducible repeat (first | apply Kd.R_alloc | apply Kd.R_drewN | apply Kd.R_drew)); exact Kd.R_mono HO311.out (fun _ hk => hk.2))); (case aS => exact (Bb5 (by repeat (first | (with_reducible first | exact HB.out | apply Bb1 | apply Bb2 | apply Bb3 | refine Bb4 ?_ GE304.out) | exact HB.out)))); (case aL => first | (have := LMc6.out; omega) | (have h_ := Nat.le_of_lt LMc6.out; exact h_)); intro v313 w15 ho hb hg hat; rw [← Ny312.out] at ho; have n0_ := am (blk_grown (g := gb304) (o := .cells #[.slice A0_0 l0_0.length c0_0, .int .i64 a0_1, .bool a0_2] 31 (0, 0)) (zK BK304) hg (Kd.R_ne HO311.out BK304.out (by decide))); have n1_ := am (Kd.R_after (ok := (fun _ => True)) (zR HO308) hg hat); have n2_ := am (hb); have n3_ := am (ho); clear BK304; clear HO308; clear HB; clear HO311; have BK304 := n0_; have HO308 := n1_; have HB := n2_; have HO314 := n3_; clear n0_ n1_ n2_ n3_; clear ho hb hg hat))
 go_loopg [6, 7] k (fun kq v6 v7 w' => ∃ (x6_1 : List (S44)) (x7_1 : Int), v7 = .int .i64 x7_1 ∧ Aside0 (spec_IsCorona.l0 kq l1 t306 x6_1 x7_1 l0_0 a0_1 a0_2 = some r) ∧ Aside0 (kq ≤ k) ∧ Aside0 (Kd.R k44 44 w' w.heap.size (fun k_ => some k_ ≠ (v6 : Value).ownBlock) v307 t306) ∧ Aside0 (Kd.R k44 44 w' w.heap.size (fun k_ => some k_ ≠ (v307 : Value).ownBlock) v6 x6_1) ∧ Aside0 (w'.heap[gb304]? = some (.cells #[(.slice A0_0 l0_0.length c0_0), .int .i64 a0_1, .bool a0_2] 31 (0, 0))) ∧ Aside0 (Below w.heap.size w w'))
 case atStart => exact ⟨(y312), (0), zS, H', ⟨Nat.le_refl _⟩, ⟨by (with_reducible repeat (first | apply Kd.R_alloc | apply Kd.R_drewN | apply Kd.R_drew)); exact Kd.R_mono HO308.out (fun _ hk => hk.2)⟩, ⟨zR HO314⟩, ⟨zK BK304⟩, ⟨by repeat (first | (with_reducible first | exact HB.out | apply Bb1 | apply Bb2 | apply Bb3 | refine Bb4 ?_ GE304.out) | exact HB.out)⟩⟩
 case round =>
  clear H'
  try clear c1
  try clear p2
  try clear c4
  try clear c6
  try clear c13
  try clear c14
  try clear hcz10_0
  try clear hcz10_1
  try clear hcz10_2
  try clear hcz14_0
  try clear hcz14_1
  try clear hcz14_2
  try clear hcz8_0
  try clear hcz8_1
  try clear hcz8_2
  try clear hfz10_0
  try clear hfz10_1
  try clear hfz10_2
  try clear hfz14_0
  try clear hfz14_1
  try clear hfz14_2
  try clear hfz8_0
  try clear hfz8_1
  try clear hfz8_2
  obtain ⟨x6_1, x7_1, rfl, HA, HK1, HO_5, HO_6, BK304, HB⟩ := hrel
  cases gk with
  | zero => exact absurd HA.out (by simp [spec_IsCorona.l0])
  | succ k1 =>
   have H := HA.out
   clear HA
   simp only [spec_IsCorona.l0] at H
   by_cases c16 : x7_1 < (l1.length : Int)
   rotate_left
   ·rw [if_neg c16] at H
    have c16b0 : decide (x7_1 < (l1.length : Int)) = false := decide_eq_false c16
    clear c16
    replace H := ob H
    obtain ⟨⟨t315, t316, t317⟩, A440, H⟩ := H
    replace H : (some (!t317)) = some r := H
    have A44 := am A440
    clear A440
    obtain rfl := oi H
    obtain ⟨Ao45, co45, eo45⟩ := Kd.R_slice HO_5.out
    subst eo45
    obtain ⟨Ao46, co46, eo46⟩ := Kd.R_slice HO_6.out
    subst eo46
    go_wp2_with (first | ((with_reducible refine gate_callee (f := 17) rfl ?_); refine goesL_ (some 59) rfl rfl Tryz.func17 (by kernel_rfl) rfl #[.slice Ao45 t306.length co45, .slice Ao46 x6_1.length co46] rfl zL ?_; (with_reducible refine (spec_l26Free.calls k1 _ _ t306 _ _ x6_1 t315 t316 t317 _ ?side1 ?side2 ?side3 ?side4 A44.out).mono ?_); (case side1 => repeat (first | exact (Kd.R_reads' HO_5.out).2.2 | (with_reducible refine Kd.C_alloc ?_ _) | (with_reducible refine Kd.C_drewN ?_ _) | (with_reducible refine Kd.C_drew ?_))); (case side2 => exact (Kd.R_reads' HO_5.out).2.1); (case side3 => repeat (first | exact (Kd.R_reads' HO_6.out).2.2 | (with_reducible refine Kd.C_alloc ?_ _) | (with_reducible refine Kd.C_drewN ?_ _) | (with_reducible refine Kd.C_drew ?_))); (case side4 => exact (Kd.R_reads' HO_6.out).2.1); rintro e w47 ⟨rfl, hb⟩; refine ⟨_, rfl, ?_⟩; have n0_ := am (Kd.R_below (zR HO_5) hb); have n1_ := am (Kd.R_below (zR HO_6) hb); have n2_ := am (Bk4 (g := gb304) (o := .cells #[.slice A0_0 l0_0.length c0_0, .int .i64 a0_1, .bool a0_2] 31 (0, 0)) (zK BK304) hb); have n3_ := am (Bb6 (by repeat (first | (with_reducible first | exact HB.out | apply Bb1 | apply Bb2 | apply Bb3 | refine Bb4 ?_ GE304.out) | exact HB.out)) hb); clear HO_5; clear HO_6; clear BK304; clear HB; have HO_5 := n0_; have HO_6 := n1_; have BK304 := n2_; have HB := n3_; clear n0_ n1_ n2_ n3_; (try clear hb); (try clear hb2); (try clear hk); (try clear hi)) | ((with_reducible refine gate_dst (N := 8) rfl ?_); refine box_event ?hg (N := 8) ?hd (cs := #[.int .i64 0, .int .i64 0]) (t := 44) ?hr ?_; (case hd => rfl); (case hg => rfl); (case hr => first | (go_simp; done) | (go_simp; rfl)); intro gb318 hg w48 hbox hb; have n0_ := am (Kd.R_below (Kd.R_elderB (zR HO_5) gb318 (Nat.le_of_eq hg.symm)) hb); have n1_ := am (Kd.R_below (Kd.R_elderB (zR HO_6) gb318 (Nat.le_of_eq hg.symm)) hb); have n2_ := am (Bk4 (g := gb304) (o := .cells #[.slice A0_0 l0_0.length c0_0, .int .i64 a0_1, .bool a0_2] 31 (0, 0)) (zK BK304) hb); have n3_ := am (Bb6 (by repeat (first | (with_reducible first | exact HB.out | apply Bb1 | apply Bb2 | apply Bb3 | refine Bb4 ?_ GE304.out) | exact HB.out)) hb); have n4_ := am (hbox); have n5_ := am ((by rw [hg]; exact (Bb5 (by repeat (first | (with_reducible first | exact HB.out | apply Bb1 | apply Bb2 | apply Bb3 | refine Bb4 ?_ GE304.out) | exact HB.out))) : w.heap.size ≤ gb318)); have n6_ := n5_; have n7_ := am ((by rw [hg]; exact nl (Bk5 (g := gb304) (o := .cells #[.slice A0_0 l0_0.length c0_0, .int .i64 a0_1, .bool a0_2] 31 (0, 0)) (zK BK304)) : gb304 ≠ gb318)); have n8_ := am ((by rw [hg]; exact ng (Bk5 (g := gb304) (o := .cells #[.slice A0_0 l0_0.length c0_0, .int .i64 a0_1, .bool a0_2] 31 (0, 0)) (zK BK304)) : gb318 ≠ gb304)); clear HO_5; clear HO_6; clear BK304; clear HB; have HO_5 := n0_; have HO_6 := n1_; have BK304 := n2_; have HB := n3_; have BK318 := n4_; have GW318 := n5_; have GE318 := n6_; have NB304_318 := n7_; have NB318_304 := n8_; clear n0_ n1_ n2_ n3_ n4_ n5_ n6_ n7_ n8_; clear hb hbox hg; have hnb49 := NB318_304.out; have hnc49 := NB304_318.out; have hcz50_0 : w48.cell? ⟨gb318, 0, none⟩ = some (.int .i64 0) := (kc BK318.out 0).trans rfl; have hcz50_1 : w48.cell? ⟨gb318, 1, none⟩ = some (.int .i64 0) := (kc BK318.out 1).trans rfl; have hfz50_0 := kf BK318.out 0; have hfz50_1 := kf BK318.out 1))
    go_ret
    exact ⟨zE, by repeat (first | (with_reducible first | exact HB.out | apply Bb1 | apply Bb2 | apply Bb3 | refine Bb4 ?_ GE304.out | refine Bb4 ?_ GE318.out) | exact HB.out)⟩
   rw [if_pos c16] at H
   have c16b0 : decide (x7_1 < (l1.length : Int)) = true := decide_eq_true c16
   clear c16
   by_cases c17 : 0 ≤ x7_1
   rotate_left
   ·rw [if_neg c17] at H
    exact absurd H (by simp)
   rw [if_pos c17] at H
   have c17b0 : decide (0 ≤ x7_1) = true := decide_eq_true c17
   clear c17
   replace H := ob H
   obtain ⟨t320, A180, H⟩ := H
   (try dsimp only at H)
   have A18 := am A180
   clear A180
   by_cases c19 : t320 = true
   rotate_left
   ·replace c19 := ef c19
    subst c19
    have H1 : (some false) = some r := by first | (rw [if_neg (show ¬ (false = true) by decide)] at H; exact H) | rfl
    clear H
    have H := H1
    clear H1
    obtain rfl := oi H
    try go_wp2
    have n0_ := am (Kd.R_drew HO_5.out)
    have n1_ := am (Kd.R_drew HO_6.out)
    have n2_ := am (Bk3 BK304.out)
    have n3_ := am (Bb3 HB.out)
    clear HO_5
    clear HO_6
    clear BK304
    clear HB
    have HO_5 := n0_
    have HO_6 := n1_
    have BK304 := n2_
    have HB := n3_
    clear n0_ n1_ n2_ n3_
    have p319 : 0 ≤ (x7_1 : Int) := zD
    have q319 : x7_1 < (l1.length : Int) := zD
    obtain ⟨ad319, A319_0, c319_0, e319, hx319_0, hl319_0, hi319_0⟩ := at_L4 HR1.out x7_1 p319 q319
    have hw319_0 := hx319_0
    cases e319
    replace hx319_0 := pc HB.out hx319_0
    have HR319_0 := am hi319_0
    have HC319_0 := am hl319_0
    clear hi319_0 hl319_0
    replace p319 := eq_true p319
    replace q319 := eq_true q319
    refine start_ (n := 24) (S := fun w' => w'.cell? ⟨gb304, 0, none⟩ = some (.slice A0_0 l0_0.length c0_0) ∧ w'.cell? ⟨gb304, 1, none⟩ = some (.int .i64 a0_1) ∧ w'.cell? ⟨gb304, 2, none⟩ = some (.bool a0_2) ∧ w'.cell? (ad319.add (x7_1).toNat) = some (.slice A319_0 (rd_L4 l1 x7_1).length c319_0)) (ds := []) spec_IsCorona.m0 (by kernel_rfl) rfl rfl ⟨(kc BK304.out 0).trans rfl, (kc BK304.out 1).trans rfl, (kc BK304.out 2).trans rfl, (pc HB.out hw319_0)⟩ (fun hHeld => ?_); refine with_tabW spec_IsCorona.tab8 spec_IsCorona.bits8 (fun HT_ HW_ => ?_)
    generalize wr.drew = w42 at HO_5 HO_6 BK304 HB HR319_0 hx319_0 hHeld ⊢
    refine pure_ (i := 1) (N := some 27) (v := ?_) (a' := ?_) spec_IsCorona.m1 rfl rfl zA (fun _ _ _ h => h) (Or.inl ⟨by rfl, ?_⟩) ?_ ?_
    rotate_left
    ·intro w'
     go_simp
     rfl
    rotate_left
    ·exact zP
    refine pure_ (i := 2) (N := some 28) (v := ?_) (a' := ?_) spec_IsCorona.m2 rfl rfl zA (fun _ _ _ h => h) (Or.inl ⟨by rfl, ?_⟩) ?_ ?_
    rotate_left
    ·intro w'
     go_simp
     rfl
    rotate_left
    ·exact zP
    refine pure_ (i := 3) (N := some 29) (v := ?_) (a' := ?_) spec_IsCorona.m3 rfl rfl zA (fun _ _ _ h => h) (Or.inl ⟨by rfl, ?_⟩) ?_ ?_
    rotate_left
    ·intro w'
     go_simp
     rfl
    rotate_left
    ·exact zP
    refine take_ (i := 0) (N := some 26) (v := ?_) (a' := ?_) spec_IsCorona.m4 rfl rfl (take_ofW HT_.out HW_.out (by kernel_rfl)) (fun _ _ _ h => h) (Or.inl ⟨by rfl, ?_⟩) hHeld ?_ ?_
    rotate_left
    ·rintro w' ⟨s0, s1, s2, s3⟩
     go_simp
     rfl
    rotate_left
    ·exact zP
    refine take_ (i := 4) (N := some 30) (v := ?_) (a' := ?_) spec_IsCorona.m5 rfl rfl (take_ofW HT_.out HW_.out (by kernel_rfl)) (fun _ _ _ h => h) (Or.inl ⟨by rfl, ?_⟩) hHeld ?_ ?_
    rotate_left
    ·rintro w' ⟨s0, s1, s2, s3⟩
     go_simp
     rfl
    rotate_left
    ·exact zP
    refine one_ (i := 5) (N := some 31) spec_IsCorona.m6 rfl rfl (one_of HT_.out (by kernel_rfl)) (by decide) (fun K hK => ?_)
    refine goes_ Tryz.func15 (by kernel_rfl) rfl #[.agg #[.slice A0_0 l0_0.length c0_0, .int .i64 a0_1, .bool a0_2], .slice A319_0 (rd_L4 l1 x7_1).length c319_0] (by rfl) rfl rfl zL ?_
    with_reducible refine (spec_l26Copy.calls k1 _ _ l0_0 a0_1 a0_2 _ _ (rd_L4 l1 x7_1) false _ ?side1 ?side2 ?side3 ?side4 A18.out).mono ?_
    (case side1 => repeat (first | exact (Kd.C_below HR0_0.out HB.out) | (with_reducible refine Kd.C_alloc ?_ _) | (with_reducible refine Kd.C_drewN ?_ _) | (with_reducible refine Kd.C_drew ?_)))
    (case side2 => exact HC0_0.out)
    (case side3 => repeat (first | exact (Kd.C_below HR319_0.out HB.out) | (with_reducible refine Kd.C_alloc ?_ _) | (with_reducible refine Kd.C_drewN ?_ _) | (with_reducible refine Kd.C_drew ?_)))
    (case side4 => exact HC319_0.out)
    rintro e w43 ⟨rfl, hb⟩
    refine ⟨_, rfl, ?_⟩
    have n0_ := am (Kd.R_below (zR HO_5) hb)
    have n1_ := am (Kd.R_below (zR HO_6) hb)
    have n2_ := am (Bk4 (g := gb304) (o := .cells #[.slice A0_0 l0_0.length c0_0, .int .i64 a0_1, .bool a0_2] 31 (0, 0)) (zK BK304) hb)
    have n3_ := am (Bb6 (by repeat (first | (with_reducible first | exact HB.out | apply Bb1 | apply Bb2 | apply Bb3 | refine Bb4 ?_ GE304.out) | exact HB.out)) hb)
    clear HO_5
    clear HO_6
    clear BK304
    clear HB
    have HO_5 := n0_
    have HO_6 := n1_
    have BK304 := n2_
    have HB := n3_
    clear n0_ n1_ n2_ n3_
    (try clear hb)
    (try clear hb2)
    (try clear hk)
    (try clear hi)
    refine hK.out _ _ ⟨(kc BK304.out 0).trans rfl, (kc BK304.out 1).trans rfl, (kc BK304.out 2).trans rfl, (pc HB.out hw319_0)⟩ (fun hHeld => ?_)
    clear hK K
    refine norm_ (a' := ?_) ?_ ?_
    rotate_left
    ·show Act.put _ (some 31) _ = _
     simp only [Act.put, sa, i64_w, i32_w]
     rfl
    refine pure_ (i := 6) (N := some 32) (v := ?_) (a' := ?_) spec_IsCorona.m7 rfl rfl zA (fun _ _ _ h => h) (Or.inl ⟨by rfl, ?_⟩) ?_ ?_
    rotate_left
    ·intro w'
     go_simp
     rfl
    rotate_left
    ·exact zP
    refine pure_ (i := 7) (N := some 33) (v := ?_) (a' := ?_) spec_IsCorona.m8 rfl rfl zA (fun _ _ _ h => h) (Or.inl ⟨by rfl, ?_⟩) ?_ ?_
    rotate_left
    ·intro w'
     go_simp
     rfl
    rotate_left
    ·exact zP
    refine pure_ (i := 8) (N := some 34) (v := undef) (a' := ?_) spec_IsCorona.m9 rfl rfl zA (fun _ _ _ h => h) (Or.inr ⟨by rfl, rfl⟩) ?_ ?_
    rotate_left
    ·exact zP
    refine pure_ (i := 9) (N := some 35) (v := undef) (a' := ?_) spec_IsCorona.m10 rfl rfl zA (fun _ _ _ h => h) (Or.inr ⟨by rfl, rfl⟩) ?_ ?_
    rotate_left
    ·exact zP
    refine pure_ (i := 10) (N := some 36) (v := undef) (a' := ?_) spec_IsCorona.m11 rfl rfl zA (fun _ _ _ h => h) (Or.inr ⟨by rfl, rfl⟩) ?_ ?_
    rotate_left
    ·exact zP
    refine pure_ (i := 11) (N := some 37) (v := undef) (a' := ?_) #[o',o',o',o',o',o',o',o',o',o',o',o',z',z',z',z',z',z',z',z',z',z',z',z'] rfl rfl zA (fun _ _ _ h => h) (Or.inr ⟨by rfl, rfl⟩) ?_ ?_
    rotate_left
    ·exact zP
    refine pure_ (i := 12) (N := some 38) (v := undef) (a' := ?_) spec_IsCorona.m13 rfl rfl zA (fun _ _ _ h => h) (Or.inr ⟨by rfl, rfl⟩) ?_ ?_
    rotate_left
    ·exact zP
    refine pure_ (i := 13) (N := some 39) (v := undef) (a' := ?_) spec_IsCorona.m14 rfl rfl zA (fun _ _ _ h => h) (Or.inr ⟨by rfl, rfl⟩) ?_ ?_
    rotate_left
    ·exact zP
    refine pure_ (i := 14) (N := some 40) (v := ?_) (a' := ?_) spec_IsCorona.m15 rfl rfl zA (fun _ _ _ h => h) (Or.inl ⟨by rfl, ?_⟩) ?_ ?_
    rotate_left
    ·intro w'
     go_simp
     rfl
    rotate_left
    ·exact zP
    refine pure_ (i := 15) (N := some 41) (v := ?_) (a' := ?_) spec_IsCorona.m16 rfl rfl zA (fun _ _ _ h => h) (Or.inl ⟨by rfl, ?_⟩) ?_ ?_
    rotate_left
    ·intro w'
     go_simp
     rfl
    rotate_left
    ·exact zP
    refine pure_ (i := 16) (N := some 42) (v := undef) (a' := ?_) spec_IsCorona.m17 rfl rfl zA (fun _ _ _ h => h) (Or.inr ⟨by rfl, rfl⟩) ?_ ?_
    rotate_left
    ·exact zP
    refine pure_ (i := 17) (N := some 43) (v := undef) (a' := ?_) spec_IsCorona.m18 rfl rfl zA (fun _ _ _ h => h) (Or.inr ⟨by rfl, rfl⟩) ?_ ?_
    rotate_left
    ·exact zP
    refine pure_ (i := 18) (N := some 44) (v := undef) (a' := ?_) spec_IsCorona.m19 rfl rfl zA (fun _ _ _ h => h) (Or.inr ⟨by rfl, rfl⟩) ?_ ?_
    rotate_left
    ·exact zP
    refine pure_ (i := 19) (N := some 45) (v := undef) (a' := ?_) spec_IsCorona.m21 rfl rfl zA (fun _ _ _ h => h) (Or.inr ⟨by rfl, rfl⟩) ?_ ?_
    rotate_left
    ·exact zP
    refine pure_ (i := 20) (N := some 46) (v := undef) (a' := ?_) spec_IsCorona.m22 rfl rfl zA (fun _ _ _ h => h) (Or.inr ⟨by rfl, rfl⟩) ?_ ?_
    rotate_left
    ·exact zP
    refine pure_ (i := 21) (N := some 47) (v := undef) (a' := ?_) spec_IsCorona.m23 rfl rfl zA (fun _ _ _ h => h) (Or.inr ⟨by rfl, rfl⟩) ?_ ?_
    rotate_left
    ·exact zP
    refine pure_ (i := 22) (N := some 48) (v := undef) (a' := ?_) spec_IsCorona.m24 rfl rfl zA (fun _ _ _ h => h) (Or.inr ⟨by rfl, rfl⟩) ?_ ?_
    rotate_left
    ·exact zP
    refine pure_ (i := 23) (N := some 49) (v := ?_) (a' := ?_) spec_IsCorona.m25 rfl rfl zA (fun _ _ _ h => h) (Or.inl ⟨by rfl, ?_⟩) ?_ ?_
    rotate_left
    ·intro w'
     go_simp
     rfl
    rotate_left
    ·exact zP
    refine done_ (done_of HT_.out (by kernel_rfl)) ?_
    try go_wp2
    go_ret
    exact ⟨zE, by repeat (first | (with_reducible first | exact HB.out | apply Bb1 | apply Bb2 | apply Bb3 | refine Bb4 ?_ GE304.out) | exact HB.out)⟩
   subst c19
   have H1 : ((spec_l02Meet.f k1 (rd_L4 l1 x7_1) x6_1).bind fun t322 => (if t322 = true then (some false) else ((spec_l02Meet.f k1 (rd_L4 l1 x7_1) t306).bind fun t324 => (if t324 = true then (if x6_1.length + (rd_L4 l1 x7_1).length < 8796093022208 then (spec_IsCorona.l0 k1 l1 t306 (x6_1 ++ (rd_L4 l1 x7_1)) (wrap64 (x7_1 + 1)) l0_0 a0_1 a0_2) else (none)) else (some false))))) = some r := by first | (rw [if_pos rfl] at H; exact H) | rfl
   clear H
   have H := H1
   clear H1
   replace H := ob H
   obtain ⟨t322, A200, H⟩ := H
   (try dsimp only at H)
   have A20 := am A200
   clear A200
   by_cases c21 : t322 = true
   ·subst c21
    have H1 : (some false) = some r := by first | (rw [if_pos rfl] at H; exact H) | rfl
    clear H
    have H := H1
    clear H1
    obtain rfl := oi H
    try go_wp2
    have n0_ := am (Kd.R_drew HO_5.out)
    have n1_ := am (Kd.R_drew HO_6.out)
    have n2_ := am (Bk3 BK304.out)
    have n3_ := am (Bb3 HB.out)
    clear HO_5
    clear HO_6
    clear BK304
    clear HB
    have HO_5 := n0_
    have HO_6 := n1_
    have BK304 := n2_
    have HB := n3_
    clear n0_ n1_ n2_ n3_
    have p319 : 0 ≤ (x7_1 : Int) := zD
    have q319 : x7_1 < (l1.length : Int) := zD
    obtain ⟨ad319, A319_0, c319_0, e319, hx319_0, hl319_0, hi319_0⟩ := at_L4 HR1.out x7_1 p319 q319
    have hw319_0 := hx319_0
    cases e319
    replace hx319_0 := pc HB.out hx319_0
    have HR319_0 := am hi319_0
    have HC319_0 := am hl319_0
    clear hi319_0 hl319_0
    replace p319 := eq_true p319
    replace q319 := eq_true q319
    have p321 : 0 ≤ (x7_1 : Int) := zD
    have q321 : x7_1 < (l1.length : Int) := zD
    obtain ⟨ad321, Az_, cz_, e321, hx321_0, hl321_0, hi321_0⟩ := at_L4 HR1.out x7_1 p321 q321
    have hw321_0 := hx321_0
    obtain rfl : ad319 = ad321 := (by injection e321)
    obtain ⟨eA_, ec_⟩ : A319_0 = Az_ ∧ c319_0 = cz_ := by have h_ := hw319_0.symm.trans hx321_0; simp only [Option.some.injEq, Value.slice.injEq] at h_; exact ⟨h_.1, h_.2.2⟩
    subst eA_
    subst ec_
    replace hx321_0 := pc HB.out hx321_0
    have HR321_0 := am hi321_0
    have HC321_0 := am hl321_0
    clear hi321_0 hl321_0
    replace p321 := eq_true p321
    replace q321 := eq_true q321
    refine start_ (n := 24) (S := fun w' => w'.cell? ⟨gb304, 0, none⟩ = some (.slice A0_0 l0_0.length c0_0) ∧ w'.cell? ⟨gb304, 1, none⟩ = some (.int .i64 a0_1) ∧ w'.cell? ⟨gb304, 2, none⟩ = some (.bool a0_2) ∧ w'.cell? (ad319.add (x7_1).toNat) = some (.slice A319_0 (rd_L4 l1 x7_1).length c319_0) ∧ w'.cell? (ad319.add (x7_1).toNat) = some (.slice A319_0 (rd_L4 l1 x7_1).length c319_0)) (ds := []) spec_IsCorona.m0 (by kernel_rfl) rfl rfl ⟨(kc BK304.out 0).trans rfl, (kc BK304.out 1).trans rfl, (kc BK304.out 2).trans rfl, (pc HB.out hw319_0), (pc HB.out hw321_0)⟩ (fun hHeld => ?_); refine with_tabW spec_IsCorona.tab8 spec_IsCorona.bits8 (fun HT_ HW_ => ?_)
    generalize wr.drew = w22 at HO_5 HO_6 BK304 HB HR319_0 HR321_0 hx319_0 hx321_0 hHeld ⊢
    refine pure_ (i := 1) (N := some 27) (v := ?_) (a' := ?_) spec_IsCorona.m1 rfl rfl zA (fun _ _ _ h => h) (Or.inl ⟨by rfl, ?_⟩) ?_ ?_
    rotate_left
    ·intro w'
     go_simp
     rfl
    rotate_left
    ·exact zP
    refine pure_ (i := 2) (N := some 28) (v := ?_) (a' := ?_) spec_IsCorona.m2 rfl rfl zA (fun _ _ _ h => h) (Or.inl ⟨by rfl, ?_⟩) ?_ ?_
    rotate_left
    ·intro w'
     go_simp
     rfl
    rotate_left
    ·exact zP
    refine pure_ (i := 3) (N := some 29) (v := ?_) (a' := ?_) spec_IsCorona.m3 rfl rfl zA (fun _ _ _ h => h) (Or.inl ⟨by rfl, ?_⟩) ?_ ?_
    rotate_left
    ·intro w'
     go_simp
     rfl
    rotate_left
    ·exact zP
    refine take_ (i := 0) (N := some 26) (v := ?_) (a' := ?_) spec_IsCorona.m4 rfl rfl (take_ofW HT_.out HW_.out (by kernel_rfl)) (fun _ _ _ h => h) (Or.inl ⟨by rfl, ?_⟩) hHeld ?_ ?_
    rotate_left
    ·rintro w' ⟨s0, s1, s2, s3, s4⟩
     go_simp
     rfl
    rotate_left
    ·exact zP
    refine take_ (i := 4) (N := some 30) (v := ?_) (a' := ?_) spec_IsCorona.m5 rfl rfl (take_ofW HT_.out HW_.out (by kernel_rfl)) (fun _ _ _ h => h) (Or.inl ⟨by rfl, ?_⟩) hHeld ?_ ?_
    rotate_left
    ·rintro w' ⟨s0, s1, s2, s3, s4⟩
     go_simp
     rfl
    rotate_left
    ·exact zP
    refine one_ (i := 5) (N := some 31) spec_IsCorona.m6 rfl rfl (one_of HT_.out (by kernel_rfl)) (by decide) (fun K hK => ?_)
    refine goes_ Tryz.func15 (by kernel_rfl) rfl #[.agg #[.slice A0_0 l0_0.length c0_0, .int .i64 a0_1, .bool a0_2], .slice A319_0 (rd_L4 l1 x7_1).length c319_0] (by rfl) rfl rfl zL ?_
    with_reducible refine (spec_l26Copy.calls k1 _ _ l0_0 a0_1 a0_2 _ _ (rd_L4 l1 x7_1) true _ ?side1 ?side2 ?side3 ?side4 A18.out).mono ?_
    (case side1 => repeat (first | exact (Kd.C_below HR0_0.out HB.out) | (with_reducible refine Kd.C_alloc ?_ _) | (with_reducible refine Kd.C_drewN ?_ _) | (with_reducible refine Kd.C_drew ?_)))
    (case side2 => exact HC0_0.out)
    (case side3 => repeat (first | exact (Kd.C_below HR319_0.out HB.out) | (with_reducible refine Kd.C_alloc ?_ _) | (with_reducible refine Kd.C_drewN ?_ _) | (with_reducible refine Kd.C_drew ?_)))
    (case side4 => exact HC319_0.out)
    rintro e w23 ⟨rfl, hb⟩
    refine ⟨_, rfl, ?_⟩
    have n0_ := am (Kd.R_below (zR HO_5) hb)
    have n1_ := am (Kd.R_below (zR HO_6) hb)
    have n2_ := am (Bk4 (g := gb304) (o := .cells #[.slice A0_0 l0_0.length c0_0, .int .i64 a0_1, .bool a0_2] 31 (0, 0)) (zK BK304) hb)
    have n3_ := am (Bb6 (by repeat (first | (with_reducible first | exact HB.out | apply Bb1 | apply Bb2 | apply Bb3 | refine Bb4 ?_ GE304.out) | exact HB.out)) hb)
    clear HO_5
    clear HO_6
    clear BK304
    clear HB
    have HO_5 := n0_
    have HO_6 := n1_
    have BK304 := n2_
    have HB := n3_
    clear n0_ n1_ n2_ n3_
    (try clear hb)
    (try clear hb2)
    (try clear hk)
    (try clear hi)
    obtain ⟨Ao24, co24, eo24⟩ := Kd.R_slice HO_6.out
    (first | subst eo24 | (injection eo24 with f1_ f2_ f3_; have f4_ := f1_.symm; have f5_ := f3_.symm; clear f1_ f2_ f3_; subst f4_; subst f5_))
    refine hK.out _ _ ⟨(kc BK304.out 0).trans rfl, (kc BK304.out 1).trans rfl, (kc BK304.out 2).trans rfl, (pc HB.out hw319_0), (pc HB.out hw321_0)⟩ (fun hHeld => ?_)
    clear hK K
    refine norm_ (a' := ?_) ?_ ?_
    rotate_left
    ·show Act.put _ (some 31) _ = _
     simp only [Act.put, sa, i64_w, i32_w]
     rfl
    refine pure_ (i := 6) (N := some 32) (v := ?_) (a' := ?_) spec_IsCorona.m7 rfl rfl zA (fun _ _ _ h => h) (Or.inl ⟨by rfl, ?_⟩) ?_ ?_
    rotate_left
    ·intro w'
     go_simp
     rfl
    rotate_left
    ·exact zP
    refine pure_ (i := 7) (N := some 33) (v := ?_) (a' := ?_) spec_IsCorona.m8 rfl rfl zA (fun _ _ _ h => h) (Or.inl ⟨by rfl, ?_⟩) ?_ ?_
    rotate_left
    ·intro w'
     go_simp
     rfl
    rotate_left
    ·exact zP
    refine pure_ (i := 8) (N := some 34) (v := ?_) (a' := ?_) spec_IsCorona.m9 rfl rfl zA (fun _ _ _ h => h) (Or.inl ⟨by rfl, ?_⟩) ?_ ?_
    rotate_left
    ·intro w'
     go_simp
     rfl
    rotate_left
    ·exact zP
    refine pure_ (i := 9) (N := some 35) (v := ?_) (a' := ?_) spec_IsCorona.m10 rfl rfl zA (fun _ _ _ h => h) (Or.inl ⟨by rfl, ?_⟩) ?_ ?_
    rotate_left
    ·intro w'
     go_simp
     rfl
    rotate_left
    ·exact zP
    refine pure_ (i := 10) (N := some 36) (v := ?_) (a' := ?_) spec_IsCorona.m11 rfl rfl zA (fun _ _ _ h => h) (Or.inl ⟨by rfl, ?_⟩) ?_ ?_
    rotate_left
    ·intro w'
     go_simp
     rfl
    rotate_left
    ·exact zP
    refine pure_ (i := 12) (N := some 38) (v := ?_) (a' := ?_) spec_IsCorona.m12 rfl rfl zA (fun _ _ _ h => h) (Or.inl ⟨by rfl, ?_⟩) ?_ ?_
    rotate_left
    ·intro w'
     go_simp
     rfl
    rotate_left
    ·exact zP
    refine take_ (i := 11) (N := some 37) (v := ?_) (a' := ?_) spec_IsCorona.m13 rfl rfl (take_ofW HT_.out HW_.out (by kernel_rfl)) (fun _ _ _ h => h) (Or.inl ⟨by rfl, ?_⟩) hHeld ?_ ?_
    rotate_left
    ·rintro w' ⟨s0, s1, s2, s3, s4⟩
     go_simp
     rfl
    rotate_left
    ·exact zP
    refine one_ (i := 13) (N := some 39) spec_IsCorona.m14 rfl rfl (one_of HT_.out (by kernel_rfl)) (by decide) (fun K hK => ?_)
    refine goes_ Tryz.func16 (by kernel_rfl) rfl #[.slice A319_0 (rd_L4 l1 x7_1).length c319_0, .slice Ao24 x6_1.length co24] (by rfl) rfl rfl zL ?_
    with_reducible refine (spec_l02Meet.calls k1 _ _ (rd_L4 l1 x7_1) _ _ x6_1 true _ ?side1 ?side2 ?side3 ?side4 A20.out).mono ?_
    (case side1 => repeat (first | exact (Kd.C_below HR321_0.out HB.out) | (with_reducible refine Kd.C_alloc ?_ _) | (with_reducible refine Kd.C_drewN ?_ _) | (with_reducible refine Kd.C_drew ?_)))
    (case side2 => exact HC321_0.out)
    (case side3 => repeat (first | exact (Kd.R_reads' HO_6.out).2.2 | (with_reducible refine Kd.C_alloc ?_ _) | (with_reducible refine Kd.C_drewN ?_ _) | (with_reducible refine Kd.C_drew ?_)))
    (case side4 => exact (Kd.R_reads' HO_6.out).2.1)
    rintro e w25 ⟨rfl, hb⟩
    refine ⟨_, rfl, ?_⟩
    have n0_ := am (Kd.R_below (zR HO_5) hb)
    have n1_ := am (Kd.R_below (zR HO_6) hb)
    have n2_ := am (Bk4 (g := gb304) (o := .cells #[.slice A0_0 l0_0.length c0_0, .int .i64 a0_1, .bool a0_2] 31 (0, 0)) (zK BK304) hb)
    have n3_ := am (Bb6 (by repeat (first | (with_reducible first | exact HB.out | apply Bb1 | apply Bb2 | apply Bb3 | refine Bb4 ?_ GE304.out) | exact HB.out)) hb)
    clear HO_5
    clear HO_6
    clear BK304
    clear HB
    have HO_5 := n0_
    have HO_6 := n1_
    have BK304 := n2_
    have HB := n3_
    clear n0_ n1_ n2_ n3_
    (try clear hb)
    (try clear hb2)
    (try clear hk)
    (try clear hi)
    refine hK.out _ _ ⟨(kc BK304.out 0).trans rfl, (kc BK304.out 1).trans rfl, (kc BK304.out 2).trans rfl, (pc HB.out hw319_0), (pc HB.out hw321_0)⟩ (fun hHeld => ?_)
    clear hK K
    refine norm_ (a' := ?_) ?_ ?_
    rotate_left
    ·show Act.put _ (some 39) _ = _
     simp only [Act.put, sa, i64_w, i32_w]
     rfl
    refine pure_ (i := 14) (N := some 40) (v := ?_) (a' := ?_) spec_IsCorona.m15 rfl rfl zA (fun _ _ _ h => h) (Or.inl ⟨by rfl, ?_⟩) ?_ ?_
    rotate_left
    ·intro w'
     go_simp
     rfl
    rotate_left
    ·exact zP
    refine pure_ (i := 15) (N := some 41) (v := ?_) (a' := ?_) spec_IsCorona.m16 rfl rfl zA (fun _ _ _ h => h) (Or.inl ⟨by rfl, ?_⟩) ?_ ?_
    rotate_left
    ·intro w'
     go_simp
     rfl
    rotate_left
    ·exact zP
    refine pure_ (i := 16) (N := some 42) (v := undef) (a' := ?_) spec_IsCorona.m17 rfl rfl zA (fun _ _ _ h => h) (Or.inr ⟨by rfl, rfl⟩) ?_ ?_
    rotate_left
    ·exact zP
    refine pure_ (i := 17) (N := some 43) (v := undef) (a' := ?_) spec_IsCorona.m18 rfl rfl zA (fun _ _ _ h => h) (Or.inr ⟨by rfl, rfl⟩) ?_ ?_
    rotate_left
    ·exact zP
    refine pure_ (i := 18) (N := some 44) (v := undef) (a' := ?_) spec_IsCorona.m19 rfl rfl zA (fun _ _ _ h => h) (Or.inr ⟨by rfl, rfl⟩) ?_ ?_
    rotate_left
    ·exact zP
    refine pure_ (i := 19) (N := some 45) (v := undef) (a' := ?_) spec_IsCorona.m21 rfl rfl zA (fun _ _ _ h => h) (Or.inr ⟨by rfl, rfl⟩) ?_ ?_
    rotate_left
    ·exact zP
    refine pure_ (i := 20) (N := some 46) (v := undef) (a' := ?_) spec_IsCorona.m22 rfl rfl zA (fun _ _ _ h => h) (Or.inr ⟨by rfl, rfl⟩) ?_ ?_
    rotate_left
    ·exact zP
    refine pure_ (i := 21) (N := some 47) (v := undef) (a' := ?_) spec_IsCorona.m23 rfl rfl zA (fun _ _ _ h => h) (Or.inr ⟨by rfl, rfl⟩) ?_ ?_
    rotate_left
    ·exact zP
    refine pure_ (i := 22) (N := some 48) (v := undef) (a' := ?_) spec_IsCorona.m24 rfl rfl zA (fun _ _ _ h => h) (Or.inr ⟨by rfl, rfl⟩) ?_ ?_
    rotate_left
    ·exact zP
    refine pure_ (i := 23) (N := some 49) (v := ?_) (a' := ?_) spec_IsCorona.m25 rfl rfl zA (fun _ _ _ h => h) (Or.inl ⟨by rfl, ?_⟩) ?_ ?_
    rotate_left
    ·intro w'
     go_simp
     rfl
    rotate_left
    ·exact zP
    refine done_ (done_of HT_.out (by kernel_rfl)) ?_
    try go_wp2
    go_ret
    exact ⟨zE, by repeat (first | (with_reducible first | exact HB.out | apply Bb1 | apply Bb2 | apply Bb3 | refine Bb4 ?_ GE304.out) | exact HB.out)⟩
   replace c21 := ef c21
   subst c21
   have H1 : ((spec_l02Meet.f k1 (rd_L4 l1 x7_1) t306).bind fun t324 => (if t324 = true then (if x6_1.length + (rd_L4 l1 x7_1).length < 8796093022208 then (spec_IsCorona.l0 k1 l1 t306 (x6_1 ++ (rd_L4 l1 x7_1)) (wrap64 (x7_1 + 1)) l0_0 a0_1 a0_2) else (none)) else (some false))) = some r := by first | (rw [if_neg (show ¬ (false = true) by decide)] at H; exact H) | rfl
   clear H
   have H := H1
   clear H1
   replace H := ob H
   obtain ⟨t324, A260, H⟩ := H
   (try dsimp only at H)
   have A26 := am A260
   clear A260
   by_cases c27 : t324 = true
   rotate_left
   ·replace c27 := ef c27
    subst c27
    have H1 : (some false) = some r := by first | (rw [if_neg (show ¬ (false = true) by decide)] at H; exact H) | rfl
    clear H
    have H := H1
    clear H1
    obtain rfl := oi H
    try go_wp2
    have n0_ := am (Kd.R_drew HO_5.out)
    have n1_ := am (Kd.R_drew HO_6.out)
    have n2_ := am (Bk3 BK304.out)
    have n3_ := am (Bb3 HB.out)
    clear HO_5
    clear HO_6
    clear BK304
    clear HB
    have HO_5 := n0_
    have HO_6 := n1_
    have BK304 := n2_
    have HB := n3_
    clear n0_ n1_ n2_ n3_
    have p319 : 0 ≤ (x7_1 : Int) := zD
    have q319 : x7_1 < (l1.length : Int) := zD
    obtain ⟨ad319, A319_0, c319_0, e319, hx319_0, hl319_0, hi319_0⟩ := at_L4 HR1.out x7_1 p319 q319
    have hw319_0 := hx319_0
    cases e319
    replace hx319_0 := pc HB.out hx319_0
    have HR319_0 := am hi319_0
    have HC319_0 := am hl319_0
    clear hi319_0 hl319_0
    replace p319 := eq_true p319
    replace q319 := eq_true q319
    have p321 : 0 ≤ (x7_1 : Int) := zD
    have q321 : x7_1 < (l1.length : Int) := zD
    obtain ⟨ad321, Az_, cz_, e321, hx321_0, hl321_0, hi321_0⟩ := at_L4 HR1.out x7_1 p321 q321
    have hw321_0 := hx321_0
    obtain rfl : ad319 = ad321 := (by injection e321)
    obtain ⟨eA_, ec_⟩ : A319_0 = Az_ ∧ c319_0 = cz_ := by have h_ := hw319_0.symm.trans hx321_0; simp only [Option.some.injEq, Value.slice.injEq] at h_; exact ⟨h_.1, h_.2.2⟩
    subst eA_
    subst ec_
    replace hx321_0 := pc HB.out hx321_0
    have HR321_0 := am hi321_0
    have HC321_0 := am hl321_0
    clear hi321_0 hl321_0
    replace p321 := eq_true p321
    replace q321 := eq_true q321
    have p323 : 0 ≤ (x7_1 : Int) := zD
    have q323 : x7_1 < (l1.length : Int) := zD
    obtain ⟨ad323, Az_, cz_, e323, hx323_0, hl323_0, hi323_0⟩ := at_L4 HR1.out x7_1 p323 q323
    have hw323_0 := hx323_0
    obtain rfl : ad319 = ad323 := (by injection e323)
    obtain ⟨eA_, ec_⟩ : A319_0 = Az_ ∧ c319_0 = cz_ := by have h_ := hw319_0.symm.trans hx323_0; simp only [Option.some.injEq, Value.slice.injEq] at h_; exact ⟨h_.1, h_.2.2⟩
    subst eA_
    subst ec_
    replace hx323_0 := pc HB.out hx323_0
    have HR323_0 := am hi323_0
    have HC323_0 := am hl323_0
    clear hi323_0 hl323_0
    replace p323 := eq_true p323
    replace q323 := eq_true q323
    refine start_ (n := 24) (S := fun w' => w'.cell? ⟨gb304, 0, none⟩ = some (.slice A0_0 l0_0.length c0_0) ∧ w'.cell? ⟨gb304, 1, none⟩ = some (.int .i64 a0_1) ∧ w'.cell? ⟨gb304, 2, none⟩ = some (.bool a0_2) ∧ w'.cell? (ad319.add (x7_1).toNat) = some (.slice A319_0 (rd_L4 l1 x7_1).length c319_0) ∧ w'.cell? (ad319.add (x7_1).toNat) = some (.slice A319_0 (rd_L4 l1 x7_1).length c319_0) ∧ w'.cell? (ad319.add (x7_1).toNat) = some (.slice A319_0 (rd_L4 l1 x7_1).length c319_0)) (ds := []) spec_IsCorona.m0 (by kernel_rfl) rfl rfl ⟨(kc BK304.out 0).trans rfl, (kc BK304.out 1).trans rfl, (kc BK304.out 2).trans rfl, (pc HB.out hw319_0), (pc HB.out hw321_0), (pc HB.out hw323_0)⟩ (fun hHeld => ?_); refine with_tabW spec_IsCorona.tab8 spec_IsCorona.bits8 (fun HT_ HW_ => ?_)
    generalize wr.drew = w36 at HO_5 HO_6 BK304 HB HR319_0 HR321_0 HR323_0 hx319_0 hx321_0 hx323_0 hHeld ⊢
    refine pure_ (i := 1) (N := some 27) (v := ?_) (a' := ?_) spec_IsCorona.m1 rfl rfl zA (fun _ _ _ h => h) (Or.inl ⟨by rfl, ?_⟩) ?_ ?_
    rotate_left
    ·intro w'
     go_simp
     rfl
    rotate_left
    ·exact zP
    refine pure_ (i := 2) (N := some 28) (v := ?_) (a' := ?_) spec_IsCorona.m2 rfl rfl zA (fun _ _ _ h => h) (Or.inl ⟨by rfl, ?_⟩) ?_ ?_
    rotate_left
    ·intro w'
     go_simp
     rfl
    rotate_left
    ·exact zP
    refine pure_ (i := 3) (N := some 29) (v := ?_) (a' := ?_) spec_IsCorona.m3 rfl rfl zA (fun _ _ _ h => h) (Or.inl ⟨by rfl, ?_⟩) ?_ ?_
    rotate_left
    ·intro w'
     go_simp
     rfl
    rotate_left
    ·exact zP
    refine take_ (i := 0) (N := some 26) (v := ?_) (a' := ?_) spec_IsCorona.m4 rfl rfl (take_ofW HT_.out HW_.out (by kernel_rfl)) (fun _ _ _ h => h) (Or.inl ⟨by rfl, ?_⟩) hHeld ?_ ?_
    rotate_left
    ·rintro w' ⟨s0, s1, s2, s3, s4, s5⟩
     go_simp
     rfl
    rotate_left
    ·exact zP
    refine take_ (i := 4) (N := some 30) (v := ?_) (a' := ?_) spec_IsCorona.m5 rfl rfl (take_ofW HT_.out HW_.out (by kernel_rfl)) (fun _ _ _ h => h) (Or.inl ⟨by rfl, ?_⟩) hHeld ?_ ?_
    rotate_left
    ·rintro w' ⟨s0, s1, s2, s3, s4, s5⟩
     go_simp
     rfl
    rotate_left
    ·exact zP
    refine one_ (i := 5) (N := some 31) spec_IsCorona.m6 rfl rfl (one_of HT_.out (by kernel_rfl)) (by decide) (fun K hK => ?_)
    refine goes_ Tryz.func15 (by kernel_rfl) rfl #[.agg #[.slice A0_0 l0_0.length c0_0, .int .i64 a0_1, .bool a0_2], .slice A319_0 (rd_L4 l1 x7_1).length c319_0] (by rfl) rfl rfl zL ?_
    with_reducible refine (spec_l26Copy.calls k1 _ _ l0_0 a0_1 a0_2 _ _ (rd_L4 l1 x7_1) true _ ?side1 ?side2 ?side3 ?side4 A18.out).mono ?_
    (case side1 => repeat (first | exact (Kd.C_below HR0_0.out HB.out) | (with_reducible refine Kd.C_alloc ?_ _) | (with_reducible refine Kd.C_drewN ?_ _) | (with_reducible refine Kd.C_drew ?_)))
    (case side2 => exact HC0_0.out)
    (case side3 => repeat (first | exact (Kd.C_below HR319_0.out HB.out) | (with_reducible refine Kd.C_alloc ?_ _) | (with_reducible refine Kd.C_drewN ?_ _) | (with_reducible refine Kd.C_drew ?_)))
    (case side4 => exact HC319_0.out)
    rintro e w37 ⟨rfl, hb⟩
    refine ⟨_, rfl, ?_⟩
    have n0_ := am (Kd.R_below (zR HO_5) hb)
    have n1_ := am (Kd.R_below (zR HO_6) hb)
    have n2_ := am (Bk4 (g := gb304) (o := .cells #[.slice A0_0 l0_0.length c0_0, .int .i64 a0_1, .bool a0_2] 31 (0, 0)) (zK BK304) hb)
    have n3_ := am (Bb6 (by repeat (first | (with_reducible first | exact HB.out | apply Bb1 | apply Bb2 | apply Bb3 | refine Bb4 ?_ GE304.out) | exact HB.out)) hb)
    clear HO_5
    clear HO_6
    clear BK304
    clear HB
    have HO_5 := n0_
    have HO_6 := n1_
    have BK304 := n2_
    have HB := n3_
    clear n0_ n1_ n2_ n3_
    (try clear hb)
    (try clear hb2)
    (try clear hk)
    (try clear hi)
    obtain ⟨Ao38, co38, eo38⟩ := Kd.R_slice HO_6.out
    (first | subst eo38 | (injection eo38 with f1_ f2_ f3_; have f4_ := f1_.symm; have f5_ := f3_.symm; clear f1_ f2_ f3_; subst f4_; subst f5_))
    refine hK.out _ _ ⟨(kc BK304.out 0).trans rfl, (kc BK304.out 1).trans rfl, (kc BK304.out 2).trans rfl, (pc HB.out hw319_0), (pc HB.out hw321_0), (pc HB.out hw323_0)⟩ (fun hHeld => ?_)
    clear hK K
    refine norm_ (a' := ?_) ?_ ?_
    rotate_left
    ·show Act.put _ (some 31) _ = _
     simp only [Act.put, sa, i64_w, i32_w]
     rfl
    refine pure_ (i := 6) (N := some 32) (v := ?_) (a' := ?_) spec_IsCorona.m7 rfl rfl zA (fun _ _ _ h => h) (Or.inl ⟨by rfl, ?_⟩) ?_ ?_
    rotate_left
    ·intro w'
     go_simp
     rfl
    rotate_left
    ·exact zP
    refine pure_ (i := 7) (N := some 33) (v := ?_) (a' := ?_) spec_IsCorona.m8 rfl rfl zA (fun _ _ _ h => h) (Or.inl ⟨by rfl, ?_⟩) ?_ ?_
    rotate_left
    ·intro w'
     go_simp
     rfl
    rotate_left
    ·exact zP
    refine pure_ (i := 8) (N := some 34) (v := ?_) (a' := ?_) spec_IsCorona.m9 rfl rfl zA (fun _ _ _ h => h) (Or.inl ⟨by rfl, ?_⟩) ?_ ?_
    rotate_left
    ·intro w'
     go_simp
     rfl
    rotate_left
    ·exact zP
    refine pure_ (i := 9) (N := some 35) (v := ?_) (a' := ?_) spec_IsCorona.m10 rfl rfl zA (fun _ _ _ h => h) (Or.inl ⟨by rfl, ?_⟩) ?_ ?_
    rotate_left
    ·intro w'
     go_simp
     rfl
    rotate_left
    ·exact zP
    refine pure_ (i := 10) (N := some 36) (v := ?_) (a' := ?_) spec_IsCorona.m11 rfl rfl zA (fun _ _ _ h => h) (Or.inl ⟨by rfl, ?_⟩) ?_ ?_
    rotate_left
    ·intro w'
     go_simp
     rfl
    rotate_left
    ·exact zP
    refine pure_ (i := 12) (N := some 38) (v := ?_) (a' := ?_) spec_IsCorona.m12 rfl rfl zA (fun _ _ _ h => h) (Or.inl ⟨by rfl, ?_⟩) ?_ ?_
    rotate_left
    ·intro w'
     go_simp
     rfl
    rotate_left
    ·exact zP
    refine take_ (i := 11) (N := some 37) (v := ?_) (a' := ?_) spec_IsCorona.m13 rfl rfl (take_ofW HT_.out HW_.out (by kernel_rfl)) (fun _ _ _ h => h) (Or.inl ⟨by rfl, ?_⟩) hHeld ?_ ?_
    rotate_left
    ·rintro w' ⟨s0, s1, s2, s3, s4, s5⟩
     go_simp
     rfl
    rotate_left
    ·exact zP
    refine one_ (i := 13) (N := some 39) spec_IsCorona.m14 rfl rfl (one_of HT_.out (by kernel_rfl)) (by decide) (fun K hK => ?_)
    refine goes_ Tryz.func16 (by kernel_rfl) rfl #[.slice A319_0 (rd_L4 l1 x7_1).length c319_0, .slice Ao38 x6_1.length co38] (by rfl) rfl rfl zL ?_
    with_reducible refine (spec_l02Meet.calls k1 _ _ (rd_L4 l1 x7_1) _ _ x6_1 false _ ?side1 ?side2 ?side3 ?side4 A20.out).mono ?_
    (case side1 => repeat (first | exact (Kd.C_below HR321_0.out HB.out) | (with_reducible refine Kd.C_alloc ?_ _) | (with_reducible refine Kd.C_drewN ?_ _) | (with_reducible refine Kd.C_drew ?_)))
    (case side2 => exact HC321_0.out)
    (case side3 => repeat (first | exact (Kd.R_reads' HO_6.out).2.2 | (with_reducible refine Kd.C_alloc ?_ _) | (with_reducible refine Kd.C_drewN ?_ _) | (with_reducible refine Kd.C_drew ?_)))
    (case side4 => exact (Kd.R_reads' HO_6.out).2.1)
    rintro e w39 ⟨rfl, hb⟩
    refine ⟨_, rfl, ?_⟩
    have n0_ := am (Kd.R_below (zR HO_5) hb)
    have n1_ := am (Kd.R_below (zR HO_6) hb)
    have n2_ := am (Bk4 (g := gb304) (o := .cells #[.slice A0_0 l0_0.length c0_0, .int .i64 a0_1, .bool a0_2] 31 (0, 0)) (zK BK304) hb)
    have n3_ := am (Bb6 (by repeat (first | (with_reducible first | exact HB.out | apply Bb1 | apply Bb2 | apply Bb3 | refine Bb4 ?_ GE304.out) | exact HB.out)) hb)
    clear HO_5
    clear HO_6
    clear BK304
    clear HB
    have HO_5 := n0_
    have HO_6 := n1_
    have BK304 := n2_
    have HB := n3_
    clear n0_ n1_ n2_ n3_
    (try clear hb)
    (try clear hb2)
    (try clear hk)
    (try clear hi)
    obtain ⟨Ao40, co40, eo40⟩ := Kd.R_slice HO_5.out
    (first | subst eo40 | (injection eo40 with f1_ f2_ f3_; have f4_ := f1_.symm; have f5_ := f3_.symm; clear f1_ f2_ f3_; subst f4_; subst f5_))
    refine hK.out _ _ ⟨(kc BK304.out 0).trans rfl, (kc BK304.out 1).trans rfl, (kc BK304.out 2).trans rfl, (pc HB.out hw319_0), (pc HB.out hw321_0), (pc HB.out hw323_0)⟩ (fun hHeld => ?_)
    clear hK K
    refine norm_ (a' := ?_) ?_ ?_
    rotate_left
    ·show Act.put _ (some 39) _ = _
     simp only [Act.put, sa, i64_w, i32_w]
     rfl
    refine pure_ (i := 14) (N := some 40) (v := ?_) (a' := ?_) spec_IsCorona.m15 rfl rfl zA (fun _ _ _ h => h) (Or.inl ⟨by rfl, ?_⟩) ?_ ?_
    rotate_left
    ·intro w'
     go_simp
     rfl
    rotate_left
    ·exact zP
    refine pure_ (i := 15) (N := some 41) (v := ?_) (a' := ?_) spec_IsCorona.m16 rfl rfl zA (fun _ _ _ h => h) (Or.inl ⟨by rfl, ?_⟩) ?_ ?_
    rotate_left
    ·intro w'
     go_simp
     rfl
    rotate_left
    ·exact zP
    refine pure_ (i := 16) (N := some 42) (v := ?_) (a' := ?_) spec_IsCorona.m17 rfl rfl zA (fun _ _ _ h => h) (Or.inl ⟨by rfl, ?_⟩) ?_ ?_
    rotate_left
    ·intro w'
     go_simp
     rfl
    rotate_left
    ·exact zP
    refine pure_ (i := 17) (N := some 43) (v := ?_) (a' := ?_) spec_IsCorona.m18 rfl rfl zA (fun _ _ _ h => h) (Or.inl ⟨by rfl, ?_⟩) ?_ ?_
    rotate_left
    ·intro w'
     go_simp
     rfl
    rotate_left
    ·exact zP
    refine pure_ (i := 18) (N := some 44) (v := ?_) (a' := ?_) spec_IsCorona.m19 rfl rfl zA (fun _ _ _ h => h) (Or.inl ⟨by rfl, ?_⟩) ?_ ?_
    rotate_left
    ·intro w'
     go_simp
     rfl
    rotate_left
    ·exact zP
    refine pure_ (i := 20) (N := some 46) (v := ?_) (a' := ?_) spec_IsCorona.m20 rfl rfl zA (fun _ _ _ h => h) (Or.inl ⟨by rfl, ?_⟩) ?_ ?_
    rotate_left
    ·intro w'
     go_simp
     rfl
    rotate_left
    ·exact zP
    refine take_ (i := 19) (N := some 45) (v := ?_) (a' := ?_) spec_IsCorona.m22 rfl rfl (take_ofW HT_.out HW_.out (by kernel_rfl)) (fun _ _ _ h => h) (Or.inl ⟨by rfl, ?_⟩) hHeld ?_ ?_
    rotate_left
    ·rintro w' ⟨s0, s1, s2, s3, s4, s5⟩
     go_simp
     rfl
    rotate_left
    ·exact zP
    refine one_ (i := 21) (N := some 47) spec_IsCorona.m23 rfl rfl (one_of HT_.out (by kernel_rfl)) (by decide) (fun K hK => ?_)
    refine goes_ Tryz.func16 (by kernel_rfl) rfl #[.slice A319_0 (rd_L4 l1 x7_1).length c319_0, .slice Ao40 t306.length co40] (by rfl) rfl rfl zL ?_
    with_reducible refine (spec_l02Meet.calls k1 _ _ (rd_L4 l1 x7_1) _ _ t306 false _ ?side1 ?side2 ?side3 ?side4 A26.out).mono ?_
    (case side1 => repeat (first | exact (Kd.C_below HR323_0.out HB.out) | (with_reducible refine Kd.C_alloc ?_ _) | (with_reducible refine Kd.C_drewN ?_ _) | (with_reducible refine Kd.C_drew ?_)))
    (case side2 => exact HC323_0.out)
    (case side3 => repeat (first | exact (Kd.R_reads' HO_5.out).2.2 | (with_reducible refine Kd.C_alloc ?_ _) | (with_reducible refine Kd.C_drewN ?_ _) | (with_reducible refine Kd.C_drew ?_)))
    (case side4 => exact (Kd.R_reads' HO_5.out).2.1)
    rintro e w41 ⟨rfl, hb⟩
    refine ⟨_, rfl, ?_⟩
    have n0_ := am (Kd.R_below (zR HO_5) hb)
    have n1_ := am (Kd.R_below (zR HO_6) hb)
    have n2_ := am (Bk4 (g := gb304) (o := .cells #[.slice A0_0 l0_0.length c0_0, .int .i64 a0_1, .bool a0_2] 31 (0, 0)) (zK BK304) hb)
    have n3_ := am (Bb6 (by repeat (first | (with_reducible first | exact HB.out | apply Bb1 | apply Bb2 | apply Bb3 | refine Bb4 ?_ GE304.out) | exact HB.out)) hb)
    clear HO_5
    clear HO_6
    clear BK304
    clear HB
    have HO_5 := n0_
    have HO_6 := n1_
    have BK304 := n2_
    have HB := n3_
    clear n0_ n1_ n2_ n3_
    (try clear hb)
    (try clear hb2)
    (try clear hk)
    (try clear hi)
    refine hK.out _ _ ⟨(kc BK304.out 0).trans rfl, (kc BK304.out 1).trans rfl, (kc BK304.out 2).trans rfl, (pc HB.out hw319_0), (pc HB.out hw321_0), (pc HB.out hw323_0)⟩ (fun hHeld => ?_)
    clear hK K
    refine norm_ (a' := ?_) ?_ ?_
    rotate_left
    ·show Act.put _ (some 47) _ = _
     simp only [Act.put, sa, i64_w, i32_w]
     rfl
    refine pure_ (i := 22) (N := some 48) (v := ?_) (a' := ?_) spec_IsCorona.m24 rfl rfl zA (fun _ _ _ h => h) (Or.inl ⟨by rfl, ?_⟩) ?_ ?_
    rotate_left
    ·intro w'
     go_simp
     rfl
    rotate_left
    ·exact zP
    refine pure_ (i := 23) (N := some 49) (v := ?_) (a' := ?_) spec_IsCorona.m25 rfl rfl zA (fun _ _ _ h => h) (Or.inl ⟨by rfl, ?_⟩) ?_ ?_
    rotate_left
    ·intro w'
     go_simp
     rfl
    rotate_left
    ·exact zP
    refine done_ (done_of HT_.out (by kernel_rfl)) ?_
    try go_wp2
    go_ret
    exact ⟨zE, by repeat (first | (with_reducible first | exact HB.out | apply Bb1 | apply Bb2 | apply Bb3 | refine Bb4 ?_ GE304.out) | exact HB.out)⟩
   subst c27
   have H1 : (if x6_1.length + (rd_L4 l1 x7_1).length < 8796093022208 then (spec_IsCorona.l0 k1 l1 t306 (x6_1 ++ (rd_L4 l1 x7_1)) (wrap64 (x7_1 + 1)) l0_0 a0_1 a0_2) else (none)) = some r := by first | (rw [if_pos rfl] at H; exact H) | rfl
   clear H
   have H := H1
   clear H1
   by_cases c28 : x6_1.length + (rd_L4 l1 x7_1).length < 8796093022208
   rotate_left
   ·rw [if_neg c28] at H
    exact absurd H (by simp)
   rw [if_pos c28] at H
   have LMc28 := am c28
   clear c28
   obtain ⟨y326, hy326⟩ : ∃ y_ : List (S44), y_ = (x6_1 ++ (rd_L4 l1 x7_1)) := ⟨_, rfl⟩
   replace H : (spec_IsCorona.l0 k1 l1 t306 y326 (wrap64 (x7_1 + 1)) l0_0 a0_1 a0_2) = some r := by first | (rw [hy326]; with_reducible exact H) | (have H2_ := (Option.bind_some _ _).symm.trans H; rw [hy326]; with_reducible exact H2_) | (have H2_ := (Option.bind_some _ _).symm.trans H; with_reducible exact H2_) | with_reducible exact H | (rw [hy326]; exact H) | exact H
   have Ny326 := am hy326
   clear hy326
   have H' := am H
   clear H
   try go_wp2
   have n0_ := am (Kd.R_drew HO_5.out)
   have n1_ := am (Kd.R_drew HO_6.out)
   have n2_ := am (Bk3 BK304.out)
   have n3_ := am (Bb3 HB.out)
   clear HO_5
   clear HO_6
   clear BK304
   clear HB
   have HO_5 := n0_
   have HO_6 := n1_
   have BK304 := n2_
   have HB := n3_
   clear n0_ n1_ n2_ n3_
   have p319 : 0 ≤ (x7_1 : Int) := zD
   have q319 : x7_1 < (l1.length : Int) := zD
   obtain ⟨ad319, A319_0, c319_0, e319, hx319_0, hl319_0, hi319_0⟩ := at_L4 HR1.out x7_1 p319 q319
   have hw319_0 := hx319_0
   cases e319
   replace hx319_0 := pc HB.out hx319_0
   have HR319_0 := am hi319_0
   have HC319_0 := am hl319_0
   clear hi319_0 hl319_0
   replace p319 := eq_true p319
   replace q319 := eq_true q319
   have p321 : 0 ≤ (x7_1 : Int) := zD
   have q321 : x7_1 < (l1.length : Int) := zD
   obtain ⟨ad321, Az_, cz_, e321, hx321_0, hl321_0, hi321_0⟩ := at_L4 HR1.out x7_1 p321 q321
   have hw321_0 := hx321_0
   obtain rfl : ad319 = ad321 := (by injection e321)
   obtain ⟨eA_, ec_⟩ : A319_0 = Az_ ∧ c319_0 = cz_ := by have h_ := hw319_0.symm.trans hx321_0; simp only [Option.some.injEq, Value.slice.injEq] at h_; exact ⟨h_.1, h_.2.2⟩
   subst eA_
   subst ec_
   replace hx321_0 := pc HB.out hx321_0
   have HR321_0 := am hi321_0
   have HC321_0 := am hl321_0
   clear hi321_0 hl321_0
   replace p321 := eq_true p321
   replace q321 := eq_true q321
   have p323 : 0 ≤ (x7_1 : Int) := zD
   have q323 : x7_1 < (l1.length : Int) := zD
   obtain ⟨ad323, Az_, cz_, e323, hx323_0, hl323_0, hi323_0⟩ := at_L4 HR1.out x7_1 p323 q323
   have hw323_0 := hx323_0
   obtain rfl : ad319 = ad323 := (by injection e323)
   obtain ⟨eA_, ec_⟩ : A319_0 = Az_ ∧ c319_0 = cz_ := by have h_ := hw319_0.symm.trans hx323_0; simp only [Option.some.injEq, Value.slice.injEq] at h_; exact ⟨h_.1, h_.2.2⟩
   subst eA_
   subst ec_
   replace hx323_0 := pc HB.out hx323_0
   have HR323_0 := am hi323_0
   have HC323_0 := am hl323_0
   clear hi323_0 hl323_0
   replace p323 := eq_true p323
   replace q323 := eq_true q323
   refine start_ (n := 24) (S := fun w' => w'.cell? ⟨gb304, 0, none⟩ = some (.slice A0_0 l0_0.length c0_0) ∧ w'.cell? ⟨gb304, 1, none⟩ = some (.int .i64 a0_1) ∧ w'.cell? ⟨gb304, 2, none⟩ = some (.bool a0_2) ∧ w'.cell? (ad319.add (x7_1).toNat) = some (.slice A319_0 (rd_L4 l1 x7_1).length c319_0) ∧ w'.cell? (ad319.add (x7_1).toNat) = some (.slice A319_0 (rd_L4 l1 x7_1).length c319_0) ∧ w'.cell? (ad319.add (x7_1).toNat) = some (.slice A319_0 (rd_L4 l1 x7_1).length c319_0)) (ds := []) spec_IsCorona.m0 (by kernel_rfl) rfl rfl ⟨(kc BK304.out 0).trans rfl, (kc BK304.out 1).trans rfl, (kc BK304.out 2).trans rfl, (pc HB.out hw319_0), (pc HB.out hw321_0), (pc HB.out hw323_0)⟩ (fun hHeld => ?_); refine with_tabW spec_IsCorona.tab8 spec_IsCorona.bits8 (fun HT_ HW_ => ?_)
   generalize wr.drew = w29 at HO_5 HO_6 BK304 HB HR319_0 HR321_0 HR323_0 hx319_0 hx321_0 hx323_0 hHeld ⊢
   refine pure_ (i := 1) (N := some 27) (v := ?_) (a' := ?_) spec_IsCorona.m1 rfl rfl zA (fun _ _ _ h => h) (Or.inl ⟨by rfl, ?_⟩) ?_ ?_
   rotate_left
   ·intro w'
    go_simp
    rfl
   rotate_left
   ·exact zP
   refine pure_ (i := 2) (N := some 28) (v := ?_) (a' := ?_) spec_IsCorona.m2 rfl rfl zA (fun _ _ _ h => h) (Or.inl ⟨by rfl, ?_⟩) ?_ ?_
   rotate_left
   ·intro w'
    go_simp
    rfl
   rotate_left
   ·exact zP
   refine pure_ (i := 3) (N := some 29) (v := ?_) (a' := ?_) spec_IsCorona.m3 rfl rfl zA (fun _ _ _ h => h) (Or.inl ⟨by rfl, ?_⟩) ?_ ?_
   rotate_left
   ·intro w'
    go_simp
    rfl
   rotate_left
   ·exact zP
   refine take_ (i := 0) (N := some 26) (v := ?_) (a' := ?_) spec_IsCorona.m4 rfl rfl (take_ofW HT_.out HW_.out (by kernel_rfl)) (fun _ _ _ h => h) (Or.inl ⟨by rfl, ?_⟩) hHeld ?_ ?_
   rotate_left
   ·rintro w' ⟨s0, s1, s2, s3, s4, s5⟩
    go_simp
    rfl
   rotate_left
   ·exact zP
   refine take_ (i := 4) (N := some 30) (v := ?_) (a' := ?_) spec_IsCorona.m5 rfl rfl (take_ofW HT_.out HW_.out (by kernel_rfl)) (fun _ _ _ h => h) (Or.inl ⟨by rfl, ?_⟩) hHeld ?_ ?_
   rotate_left
   ·rintro w' ⟨s0, s1, s2, s3, s4, s5⟩
    go_simp
    rfl
   rotate_left
   ·exact zP
   refine one_ (i := 5) (N := some 31) spec_IsCorona.m6 rfl rfl (one_of HT_.out (by kernel_rfl)) (by decide) (fun K hK => ?_)
   refine goes_ Tryz.func15 (by kernel_rfl) rfl #[.agg #[.slice A0_0 l0_0.length c0_0, .int .i64 a0_1, .bool a0_2], .slice A319_0 (rd_L4 l1 x7_1).length c319_0] (by rfl) rfl rfl zL ?_
   with_reducible refine (spec_l26Copy.calls k1 _ _ l0_0 a0_1 a0_2 _ _ (rd_L4 l1 x7_1) true _ ?side1 ?side2 ?side3 ?side4 A18.out).mono ?_
   (case side1 => repeat (first | exact (Kd.C_below HR0_0.out HB.out) | (with_reducible refine Kd.C_alloc ?_ _) | (with_reducible refine Kd.C_drewN ?_ _) | (with_reducible refine Kd.C_drew ?_)))
   (case side2 => exact HC0_0.out)
   (case side3 => repeat (first | exact (Kd.C_below HR319_0.out HB.out) | (with_reducible refine Kd.C_alloc ?_ _) | (with_reducible refine Kd.C_drewN ?_ _) | (with_reducible refine Kd.C_drew ?_)))
   (case side4 => exact HC319_0.out)
   rintro e w30 ⟨rfl, hb⟩
   refine ⟨_, rfl, ?_⟩
   have n0_ := am (Kd.R_below (zR HO_5) hb)
   have n1_ := am (Kd.R_below (zR HO_6) hb)
   have n2_ := am (Bk4 (g := gb304) (o := .cells #[.slice A0_0 l0_0.length c0_0, .int .i64 a0_1, .bool a0_2] 31 (0, 0)) (zK BK304) hb)
   have n3_ := am (Bb6 (by repeat (first | (with_reducible first | exact HB.out | apply Bb1 | apply Bb2 | apply Bb3 | refine Bb4 ?_ GE304.out) | exact HB.out)) hb)
   clear HO_5
   clear HO_6
   clear BK304
   clear HB
   have HO_5 := n0_
   have HO_6 := n1_
   have BK304 := n2_
   have HB := n3_
   clear n0_ n1_ n2_ n3_
   (try clear hb)
   (try clear hb2)
   (try clear hk)
   (try clear hi)
   obtain ⟨Ao31, co31, eo31⟩ := Kd.R_slice HO_6.out
   (first | subst eo31 | (injection eo31 with f1_ f2_ f3_; have f4_ := f1_.symm; have f5_ := f3_.symm; clear f1_ f2_ f3_; subst f4_; subst f5_))
   refine hK.out _ _ ⟨(kc BK304.out 0).trans rfl, (kc BK304.out 1).trans rfl, (kc BK304.out 2).trans rfl, (pc HB.out hw319_0), (pc HB.out hw321_0), (pc HB.out hw323_0)⟩ (fun hHeld => ?_)
   clear hK K
   refine norm_ (a' := ?_) ?_ ?_
   rotate_left
   ·show Act.put _ (some 31) _ = _
    simp only [Act.put, sa, i64_w, i32_w]
    rfl
   refine pure_ (i := 6) (N := some 32) (v := ?_) (a' := ?_) spec_IsCorona.m7 rfl rfl zA (fun _ _ _ h => h) (Or.inl ⟨by rfl, ?_⟩) ?_ ?_
   rotate_left
   ·intro w'
    go_simp
    rfl
   rotate_left
   ·exact zP
   refine pure_ (i := 7) (N := some 33) (v := ?_) (a' := ?_) spec_IsCorona.m8 rfl rfl zA (fun _ _ _ h => h) (Or.inl ⟨by rfl, ?_⟩) ?_ ?_
   rotate_left
   ·intro w'
    go_simp
    rfl
   rotate_left
   ·exact zP
   refine pure_ (i := 8) (N := some 34) (v := ?_) (a' := ?_) spec_IsCorona.m9 rfl rfl zA (fun _ _ _ h => h) (Or.inl ⟨by rfl, ?_⟩) ?_ ?_
   rotate_left
   ·intro w'
    go_simp
    rfl
   rotate_left
   ·exact zP
   refine pure_ (i := 9) (N := some 35) (v := ?_) (a' := ?_) spec_IsCorona.m10 rfl rfl zA (fun _ _ _ h => h) (Or.inl ⟨by rfl, ?_⟩) ?_ ?_
   rotate_left
   ·intro w'
    go_simp
    rfl
   rotate_left
   ·exact zP
   refine pure_ (i := 10) (N := some 36) (v := ?_) (a' := ?_) spec_IsCorona.m11 rfl rfl zA (fun _ _ _ h => h) (Or.inl ⟨by rfl, ?_⟩) ?_ ?_
   rotate_left
   ·intro w'
    go_simp
    rfl
   rotate_left
   ·exact zP
   refine pure_ (i := 12) (N := some 38) (v := ?_) (a' := ?_) spec_IsCorona.m12 rfl rfl zA (fun _ _ _ h => h) (Or.inl ⟨by rfl, ?_⟩) ?_ ?_
   rotate_left
   ·intro w'
    go_simp
    rfl
   rotate_left
   ·exact zP
   refine take_ (i := 11) (N := some 37) (v := ?_) (a' := ?_) spec_IsCorona.m13 rfl rfl (take_ofW HT_.out HW_.out (by kernel_rfl)) (fun _ _ _ h => h) (Or.inl ⟨by rfl, ?_⟩) hHeld ?_ ?_
   rotate_left
   ·rintro w' ⟨s0, s1, s2, s3, s4, s5⟩
    go_simp
    rfl
   rotate_left
   ·exact zP
   refine one_ (i := 13) (N := some 39) spec_IsCorona.m14 rfl rfl (one_of HT_.out (by kernel_rfl)) (by decide) (fun K hK => ?_)
   refine goes_ Tryz.func16 (by kernel_rfl) rfl #[.slice A319_0 (rd_L4 l1 x7_1).length c319_0, .slice Ao31 x6_1.length co31] (by rfl) rfl rfl zL ?_
   with_reducible refine (spec_l02Meet.calls k1 _ _ (rd_L4 l1 x7_1) _ _ x6_1 false _ ?side1 ?side2 ?side3 ?side4 A20.out).mono ?_
   (case side1 => repeat (first | exact (Kd.C_below HR321_0.out HB.out) | (with_reducible refine Kd.C_alloc ?_ _) | (with_reducible refine Kd.C_drewN ?_ _) | (with_reducible refine Kd.C_drew ?_)))
   (case side2 => exact HC321_0.out)
   (case side3 => repeat (first | exact (Kd.R_reads' HO_6.out).2.2 | (with_reducible refine Kd.C_alloc ?_ _) | (with_reducible refine Kd.C_drewN ?_ _) | (with_reducible refine Kd.C_drew ?_)))
   (case side4 => exact (Kd.R_reads' HO_6.out).2.1)
   rintro e w32 ⟨rfl, hb⟩
   refine ⟨_, rfl, ?_⟩
   have n0_ := am (Kd.R_below (zR HO_5) hb)
   have n1_ := am (Kd.R_below (zR HO_6) hb)
   have n2_ := am (Bk4 (g := gb304) (o := .cells #[.slice A0_0 l0_0.length c0_0, .int .i64 a0_1, .bool a0_2] 31 (0, 0)) (zK BK304) hb)
   have n3_ := am (Bb6 (by repeat (first | (with_reducible first | exact HB.out | apply Bb1 | apply Bb2 | apply Bb3 | refine Bb4 ?_ GE304.out) | exact HB.out)) hb)
   clear HO_5
   clear HO_6
   clear BK304
   clear HB
   have HO_5 := n0_
   have HO_6 := n1_
   have BK304 := n2_
   have HB := n3_
   clear n0_ n1_ n2_ n3_
   (try clear hb)
   (try clear hb2)
   (try clear hk)
   (try clear hi)
   obtain ⟨Ao33, co33, eo33⟩ := Kd.R_slice HO_5.out
   (first | subst eo33 | (injection eo33 with f1_ f2_ f3_; have f4_ := f1_.symm; have f5_ := f3_.symm; clear f1_ f2_ f3_; subst f4_; subst f5_))
   refine hK.out _ _ ⟨(kc BK304.out 0).trans rfl, (kc BK304.out 1).trans rfl, (kc BK304.out 2).trans rfl, (pc HB.out hw319_0), (pc HB.out hw321_0), (pc HB.out hw323_0)⟩ (fun hHeld => ?_)
   clear hK K
   refine norm_ (a' := ?_) ?_ ?_
   rotate_left
   ·show Act.put _ (some 39) _ = _
    simp only [Act.put, sa, i64_w, i32_w]
    rfl
   refine pure_ (i := 14) (N := some 40) (v := ?_) (a' := ?_) spec_IsCorona.m15 rfl rfl zA (fun _ _ _ h => h) (Or.inl ⟨by rfl, ?_⟩) ?_ ?_
   rotate_left
   ·intro w'
    go_simp
    rfl
   rotate_left
   ·exact zP
   refine pure_ (i := 15) (N := some 41) (v := ?_) (a' := ?_) spec_IsCorona.m16 rfl rfl zA (fun _ _ _ h => h) (Or.inl ⟨by rfl, ?_⟩) ?_ ?_
   rotate_left
   ·intro w'
    go_simp
    rfl
   rotate_left
   ·exact zP
   refine pure_ (i := 16) (N := some 42) (v := ?_) (a' := ?_) spec_IsCorona.m17 rfl rfl zA (fun _ _ _ h => h) (Or.inl ⟨by rfl, ?_⟩) ?_ ?_
   rotate_left
   ·intro w'
    go_simp
    rfl
   rotate_left
   ·exact zP
   refine pure_ (i := 17) (N := some 43) (v := ?_) (a' := ?_) spec_IsCorona.m18 rfl rfl zA (fun _ _ _ h => h) (Or.inl ⟨by rfl, ?_⟩) ?_ ?_
   rotate_left
   ·intro w'
    go_simp
    rfl
   rotate_left
   ·exact zP
   refine pure_ (i := 18) (N := some 44) (v := ?_) (a' := ?_) spec_IsCorona.m19 rfl rfl zA (fun _ _ _ h => h) (Or.inl ⟨by rfl, ?_⟩) ?_ ?_
   rotate_left
   ·intro w'
    go_simp
    rfl
   rotate_left
   ·exact zP
   refine pure_ (i := 20) (N := some 46) (v := ?_) (a' := ?_) spec_IsCorona.m20 rfl rfl zA (fun _ _ _ h => h) (Or.inl ⟨by rfl, ?_⟩) ?_ ?_
   rotate_left
   ·intro w'
    go_simp
    rfl
   rotate_left
   ·exact zP
   refine take_ (i := 19) (N := some 45) (v := ?_) (a' := ?_) spec_IsCorona.m22 rfl rfl (take_ofW HT_.out HW_.out (by kernel_rfl)) (fun _ _ _ h => h) (Or.inl ⟨by rfl, ?_⟩) hHeld ?_ ?_
   rotate_left
   ·rintro w' ⟨s0, s1, s2, s3, s4, s5⟩
    go_simp
    rfl
   rotate_left
   ·exact zP
   refine one_ (i := 21) (N := some 47) spec_IsCorona.m23 rfl rfl (one_of HT_.out (by kernel_rfl)) (by decide) (fun K hK => ?_)
   refine goes_ Tryz.func16 (by kernel_rfl) rfl #[.slice A319_0 (rd_L4 l1 x7_1).length c319_0, .slice Ao33 t306.length co33] (by rfl) rfl rfl zL ?_
   with_reducible refine (spec_l02Meet.calls k1 _ _ (rd_L4 l1 x7_1) _ _ t306 true _ ?side1 ?side2 ?side3 ?side4 A26.out).mono ?_
   (case side1 => repeat (first | exact (Kd.C_below HR323_0.out HB.out) | (with_reducible refine Kd.C_alloc ?_ _) | (with_reducible refine Kd.C_drewN ?_ _) | (with_reducible refine Kd.C_drew ?_)))
   (case side2 => exact HC323_0.out)
   (case side3 => repeat (first | exact (Kd.R_reads' HO_5.out).2.2 | (with_reducible refine Kd.C_alloc ?_ _) | (with_reducible refine Kd.C_drewN ?_ _) | (with_reducible refine Kd.C_drew ?_)))
   (case side4 => exact (Kd.R_reads' HO_5.out).2.1)
   rintro e w34 ⟨rfl, hb⟩
   refine ⟨_, rfl, ?_⟩
   have n0_ := am (Kd.R_below (zR HO_5) hb)
   have n1_ := am (Kd.R_below (zR HO_6) hb)
   have n2_ := am (Bk4 (g := gb304) (o := .cells #[.slice A0_0 l0_0.length c0_0, .int .i64 a0_1, .bool a0_2] 31 (0, 0)) (zK BK304) hb)
   have n3_ := am (Bb6 (by repeat (first | (with_reducible first | exact HB.out | apply Bb1 | apply Bb2 | apply Bb3 | refine Bb4 ?_ GE304.out) | exact HB.out)) hb)
   clear HO_5
   clear HO_6
   clear BK304
   clear HB
   have HO_5 := n0_
   have HO_6 := n1_
   have BK304 := n2_
   have HB := n3_
   clear n0_ n1_ n2_ n3_
   (try clear hb)
   (try clear hb2)
   (try clear hk)
   (try clear hi)
   refine hK.out _ _ ⟨(kc BK304.out 0).trans rfl, (kc BK304.out 1).trans rfl, (kc BK304.out 2).trans rfl, (pc HB.out hw319_0), (pc HB.out hw321_0), (pc HB.out hw323_0)⟩ (fun hHeld => ?_)
   clear hK K
   refine norm_ (a' := ?_) ?_ ?_
   rotate_left
   ·show Act.put _ (some 47) _ = _
    simp only [Act.put, sa, i64_w, i32_w]
    rfl
   refine pure_ (i := 22) (N := some 48) (v := ?_) (a' := ?_) spec_IsCorona.m24 rfl rfl zA (fun _ _ _ h => h) (Or.inl ⟨by rfl, ?_⟩) ?_ ?_
   rotate_left
   ·intro w'
    go_simp
    rfl
   rotate_left
   ·exact zP
   refine pure_ (i := 23) (N := some 49) (v := ?_) (a' := ?_) spec_IsCorona.m25 rfl rfl zA (fun _ _ _ h => h) (Or.inl ⟨by rfl, ?_⟩) ?_ ?_
   rotate_left
   ·intro w'
    go_simp
    rfl
   rotate_left
   ·exact zP
   refine done_ (done_of HT_.out (by kernel_rfl)) ?_
   have p325 : 0 ≤ (x7_1 : Int) := zD
   have q325 : x7_1 < (l1.length : Int) := zD
   obtain ⟨ad325, Az_, cz_, e325, hx325_0, hl325_0, hi325_0⟩ := at_L4 HR1.out x7_1 p325 q325
   obtain rfl : ad319 = ad325 := (by injection e325)
   obtain ⟨eA_, ec_⟩ : A319_0 = Az_ ∧ c319_0 = cz_ := by have h_ := hw319_0.symm.trans hx325_0; simp only [Option.some.injEq, Value.slice.injEq] at h_; exact ⟨h_.1, h_.2.2⟩
   subst eA_
   subst ec_
   replace hx325_0 := pc HB.out hx325_0
   have HR325_0 := am hi325_0
   have HC325_0 := am hl325_0
   clear hi325_0 hl325_0
   replace p325 := eq_true p325
   replace q325 := eq_true q325
   try go_wp2_with (first | ((with_reducible refine gate_builtin (b := .append) (xs := #[.tmp 50, .tmp 54]) rfl ?_); at_builtin; refine Kd.R_append_rows k44 (w0 := w) w.heap.size rfl (.tmp 50) (.tmp 54) 29 44 (.agg #[(.int .i64 0), (.int .i64 0)]) 16 rfl Tryz.underlying29 info44 rfl (by decide) (by omega) (.slice Ao31 x6_1.length co31) x6_1 (rd_L4 l1 x7_1) _ _ _ (fun k_ => some k_ ≠ (.slice Ao33 t306.length co33 : Value).ownBlock) (fun _ => False) rfl rfl ?aO ?aR (fun _ _ h => h) (fun _ h => h.elim) ?aF ?aB ?aS ?aL ?_; (case aR => repeat (first | exact (Kd.C_below HR325_0.out HB.out) | (with_reducible refine Kd.C_alloc ?_ _) | (with_reducible refine Kd.C_drewN ?_ _) | (with_reducible refine Kd.C_drew ?_))); (case aB => exact (by repeat (first | (with_reducible first | exact HB.out | apply Bb1 | apply Bb2 | apply Bb3 | refine Bb4 ?_ GE304.out) | exact HB.out))); (case aF => exact (fun k_ hk => Kd.fresh' (Kd.R_lt (zR HO_5)) k_ hk)); (case aO => exact (zR HO_6)); (case aS => exact (Bb5 (by repeat (first | (with_reducible first | exact HB.out | apply Bb1 | apply Bb2 | apply Bb3 | refine Bb4 ?_ GE304.out) | exact HB.out)))); (case aL => first | (have := LMc28.out; omega) | (have h_ := Nat.le_of_lt LMc28.out; exact h_)); intro v327 w35 ho hb hg hat; rw [← Ny326.out] at ho; have n0_ := am (Kd.R_after (ok := (fun _ => True)) (by (with_reducible repeat (first | apply Kd.R_alloc | apply Kd.R_drewN | apply Kd.R_drew)); exact Kd.R_mono HO_5.out (fun _ hk => ⟨trivial, hk⟩)) hg hat); have n1_ := am (blk_grown (g := gb304) (o := .cells #[.slice A0_0 l0_0.length c0_0, .int .i64 a0_1, .bool a0_2] 31 (0, 0)) (zK BK304) hg (Kd.R_ne HO_6.out BK304.out (by decide))); have n2_ := am (hb); have n3_ := am (ho); clear HO_5; clear BK304; clear HB; clear HO_6; have HO_5 := n0_; have BK304 := n1_; have HB := n2_; have HO328 := n3_; clear n0_ n1_ n2_ n3_; clear ho hb hg hat))
   go_roundg k1
   case measure => have := HK1.out; omega
   case rel => exact ⟨(y326), (wrap64 (x7_1 + 1)), zS, H', ⟨by have := HK1.out; omega⟩, ⟨by (with_reducible repeat (first | apply Kd.R_alloc | apply Kd.R_drewN | apply Kd.R_drew)); exact Kd.R_mono HO_5.out (fun _ hk => hk.2)⟩, ⟨zR HO328⟩, ⟨zK BK304⟩, ⟨by repeat (first | (with_reducible first | exact HB.out | apply Bb1 | apply Bb2 | apply Bb3 | refine Bb4 ?_ GE304.out) | exact HB.out)⟩⟩

/-! ### laws_toCell: function 31 -/
def laws_toCell.f (a0_0 : Int) (a0_1 : Int) : Option (Int × Int) := some (a0_0, a0_1)
set_option maxHeartbeats 8000000 in
set_option maxRecDepth 100000 in
theorem laws_toCell.calls (a0_0 : Int) (a0_1 : Int) (r1 : Int) (r2 : Int) (w : World) (h : laws_toCell.f a0_0 a0_1 = some (r1, r2)) :
  Calls Tryz.prog 31 #[.agg #[.int .i64 a0_0, .int .i64 a0_1]] w fun e w' => e = .returned (.agg #[.int .i64 r1, .int .i64 r2]) ∧ Below w.heap.size w w' := by
 have hu55 := Tryz.underlying55
 have hu44 := Tryz.underlying44
 have HB := am (Below.refl w.heap.size w)
 have H : (some (a0_0, a0_1)) = some (r1, r2) := h
 clear h
 simp only [Option.some.injEq, Prod.mk.injEq] at H
 obtain ⟨rfl, rfl⟩ := H
 go_enter Tryz.func31, Tryz.ntmps31
 go_wp2_with (first | ((with_reducible refine gate_dst (N := 1) rfl ?_); refine box_event ?hg (N := 1) ?hd (cs := #[.int .i64 a0_0, .int .i64 a0_1]) (t := 55) ?hr ?_; (case hd => rfl); (case hg => rfl); (case hr => first | (go_simp; done) | (go_simp; rfl)); intro gb329 hg w2 hbox hb; have n0_ := am (Bb6 zB hb); have n1_ := am (hbox); have n2_ := am ((by rw [hg]; exact (Bb5 zB) : w.heap.size ≤ gb329)); have n3_ := n2_; clear HB; have HB := n0_; have BK329 := n1_; have GW329 := n2_; have GE329 := n3_; clear n0_ n1_ n2_ n3_; clear hb hbox hg) | ((with_reducible refine gate_dst (N := 2) rfl ?_); refine box_event ?hg (N := 2) ?hd (cs := #[.int .i64 0, .int .i64 0]) (t := 44) ?hr ?_; (case hd => rfl); (case hg => rfl); (case hr => first | (go_simp; done) | (go_simp; rfl)); intro gb330 hg w3 hbox hb; have n0_ := am (Bk4 (g := gb329) (o := .cells #[.int .i64 a0_0, .int .i64 a0_1] 55 (0, 0)) (zK BK329) hb); have n1_ := am (Bb6 (by repeat (first | (with_reducible first | exact HB.out | apply Bb1 | apply Bb2 | apply Bb3 | refine Bb4 ?_ GE329.out) | exact HB.out)) hb); have n2_ := am (hbox); have n3_ := am ((by rw [hg]; exact (Bb5 (by repeat (first | (with_reducible first | exact HB.out | apply Bb1 | apply Bb2 | apply Bb3 | refine Bb4 ?_ GE329.out) | exact HB.out))) : w.heap.size ≤ gb330)); have n4_ := n3_; have n5_ := am ((by rw [hg]; exact nl (Bk5 (g := gb329) (o := .cells #[.int .i64 a0_0, .int .i64 a0_1] 55 (0, 0)) (zK BK329)) : gb329 ≠ gb330)); have n6_ := am ((by rw [hg]; exact ng (Bk5 (g := gb329) (o := .cells #[.int .i64 a0_0, .int .i64 a0_1] 55 (0, 0)) (zK BK329)) : gb330 ≠ gb329)); clear BK329; clear HB; have BK329 := n0_; have HB := n1_; have BK330 := n2_; have GW330 := n3_; have GE330 := n4_; have NB329_330 := n5_; have NB330_329 := n6_; clear n0_ n1_ n2_ n3_ n4_ n5_ n6_; clear hb hbox hg) | ((with_reducible refine gate_dst (N := 3) rfl ?_); refine box_event ?hg (N := 3) ?hd (cs := #[.int .i64 0, .int .i64 0]) (t := 44) ?hr ?_; (case hd => rfl); (case hg => rfl); (case hr => first | (go_simp; done) | (go_simp; rfl)); intro gb331 hg w4 hbox hb; have n0_ := am (Bk4 (g := gb329) (o := .cells #[.int .i64 a0_0, .int .i64 a0_1] 55 (0, 0)) (zK BK329) hb); have n1_ := am (Bk4 (g := gb330) (o := .cells #[.int .i64 0, .int .i64 0] 44 (0, 0)) (zK BK330) hb); have n2_ := am (Bb6 (by repeat (first | (with_reducible first | exact HB.out | apply Bb1 | apply Bb2 | apply Bb3 | refine Bb4 ?_ GE329.out | refine Bb4 ?_ GE330.out) | exact HB.out)) hb); have n3_ := am (hbox); have n4_ := am ((by rw [hg]; exact (Bb5 (by repeat (first | (with_reducible first | exact HB.out | apply Bb1 | apply Bb2 | apply Bb3 | refine Bb4 ?_ GE329.out | refine Bb4 ?_ GE330.out) | exact HB.out))) : w.heap.size ≤ gb331)); have n5_ := n4_; have n6_ := am ((by rw [hg]; exact nl (Bk5 (g := gb329) (o := .cells #[.int .i64 a0_0, .int .i64 a0_1] 55 (0, 0)) (zK BK329)) : gb329 ≠ gb331)); have n7_ := am ((by rw [hg]; exact ng (Bk5 (g := gb329) (o := .cells #[.int .i64 a0_0, .int .i64 a0_1] 55 (0, 0)) (zK BK329)) : gb331 ≠ gb329)); have n8_ := am ((by rw [hg]; exact nl (Bk5 (g := gb330) (o := .cells #[.int .i64 0, .int .i64 0] 44 (0, 0)) (zK BK330)) : gb330 ≠ gb331)); have n9_ := am ((by rw [hg]; exact ng (Bk5 (g := gb330) (o := .cells #[.int .i64 0, .int .i64 0] 44 (0, 0)) (zK BK330)) : gb331 ≠ gb330)); clear BK329; clear BK330; clear HB; have BK329 := n0_; have BK330 := n1_; have HB := n2_; have BK331 := n3_; have GW331 := n4_; have GE331 := n5_; have NB329_331 := n6_; have NB331_329 := n7_; have NB330_331 := n8_; have NB331_330 := n9_; clear n0_ n1_ n2_ n3_ n4_ n5_ n6_ n7_ n8_ n9_; clear hb hbox hg; have hnb5 := NB329_330.out; have hnc5 := NB330_329.out; have hnb6 := NB329_331.out; have hnc6 := NB331_329.out; have hcz7_0 : w4.cell? ⟨gb329, 0, none⟩ = some (.int .i64 a0_0) := (kc BK329.out 0).trans rfl; have hcz7_1 : w4.cell? ⟨gb329, 1, none⟩ = some (.int .i64 a0_1) := (kc BK329.out 1).trans rfl; have hfz7_0 := kf BK329.out 0; have hfz7_1 := kf BK329.out 1; have hnb8 := NB331_330.out; have hnc8 := NB330_331.out; have hcz9_0 : w4.cell? ⟨gb331, 0, none⟩ = some (.int .i64 0) := (kc BK331.out 0).trans rfl; have hcz9_1 : w4.cell? ⟨gb331, 1, none⟩ = some (.int .i64 0) := (kc BK331.out 1).trans rfl; have hfz9_0 := kf BK331.out 0; have hfz9_1 := kf BK331.out 1; have hcz10_0 : w4.cell? ⟨gb330, 0, none⟩ = some (.int .i64 0) := (kc BK330.out 0).trans rfl; have hcz10_1 : w4.cell? ⟨gb330, 1, none⟩ = some (.int .i64 0) := (kc BK330.out 1).trans rfl; have hfz10_0 := kf BK330.out 0; have hfz10_1 := kf BK330.out 1))
 refine bodyPost_ret (results_cell_row rfl _ _ gb330 44 #[.int .i64 a0_0, .int .i64 a0_1] (0, 0) _ rfl (by (with_reducible repeat (first | refine Bk2 ?_ _ | refine Bk3 ?_ | refine Bk1 ?_ _)); refine blk_put (cs := #[.int .i64 a0_0, .int .i64 0]) ?_ 1 _ rfl; (with_reducible repeat (first | refine Bk2 ?_ _ | refine Bk3 ?_ | refine Bk1 ?_ _)); refine blk_put (cs := #[.int .i64 0, .int .i64 0]) ?_ 0 _ rfl; (with_reducible repeat (first | refine Bk2 ?_ _ | refine Bk3 ?_ | refine Bk1 ?_ _)); refine blk_far ?_ NB330_331.out _; (with_reducible repeat (first | refine Bk2 ?_ _ | refine Bk3 ?_ | refine Bk1 ?_ _)); refine blk_far ?_ NB330_331.out _; (with_reducible repeat (first | refine Bk2 ?_ _ | refine Bk3 ?_ | refine Bk1 ?_ _)); exact BK330.out) Tryz.underlying44 rfl (by kernel_rfl)) rfl ?_
 exact ⟨zE, by repeat (first | (with_reducible first | exact HB.out | apply Bb1 | apply Bb2 | apply Bb3 | refine Bb4 ?_ GE329.out | refine Bb4 ?_ GE330.out | refine Bb4 ?_ GE331.out) | exact HB.out)⟩

end Go.Proofs.YtbbhohaenijaoaaGreat.Q
