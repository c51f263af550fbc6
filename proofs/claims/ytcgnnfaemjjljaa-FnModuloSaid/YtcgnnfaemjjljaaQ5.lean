/- Written by a program of this session (wip/tools/pp.py) out of the translation, with the kit's printer. -/
import Derived.Test.YtcgnnfaemjjljaaQ0
namespace Go.Proofs.Ytcgnnfaemjjljaa.Q
open Go.RowKit Go.Proofs.YtcgnnfaemjjljaaW.PrintWords Go.Proofs.YtcgnnfaemjjljaaW.PrintLast Go.Proofs.YtcgnnfaemjjljaaW.PrintMore
attribute [local go_sem] max2_int min2_int max_two min_two max_three min_three max_four min_four
set_option linter.unusedVariables false
set_option linter.unusedSimpArgs false

/-! ### impl_within: function 29 -/
def impl_within.f (a0 : Int) (a1 : Int) (a2 : Int) : Option (Bool) := if a0 ≥ a1 then (some (decide (a0 ≤ a2))) else (some false)
set_option maxHeartbeats 8000000 in
set_option maxRecDepth 100000 in
theorem impl_within.calls (a0 : Int) (a1 : Int) (a2 : Int) (r : Bool) (w : World) (h : impl_within.f a0 a1 a2 = some r) :
  Calls Try.prog 29 #[.int .i64 a0, .int .i64 a1, .int .i64 a2] w fun e w' => e = .returned (.bool r) ∧ Drawn0 w w' := by
 have H : (if a0 ≥ a1 then (some (decide (a0 ≤ a2))) else (some false)) = some r := h
 clear h
 by_cases c4 : a0 ≥ a1
 ·rw [if_pos c4] at H
  have c4b0 : decide (a1 ≤ a0) = true := decide_eq_true c4
  clear c4
  obtain rfl := oi H
  go_enter Try.func29, Try.ntmps29
  go_wp2
  go_ret
  exact ⟨by first | rfl | (simp; done) | (simp [*]; done), by repeat (first | exact Drawn0.refl _ | apply Drawn0.step)⟩
 ·rw [if_neg c4] at H
  have c4b0 : decide (a1 ≤ a0) = false := decide_eq_false c4
  clear c4
  obtain rfl := oi H
  go_enter Try.func29, Try.ntmps29
  go_wp2
  go_ret
  exact ⟨by first | rfl | (simp; done) | (simp [*]; done), by repeat (first | exact Drawn0.refl _ | apply Drawn0.step)⟩

/-! ### impl_IsLattice: function 19 -/
def impl_IsLattice.f (a0_0 : Int) (a0_1 : Int) (a0_2 : Int) : Option (Bool) := (impl_within.f a0_0 1 40).bind fun t170 => (if t170 = true then ((impl_within.f a0_2 1 40).bind fun t171 => (if t171 = true then ((impl_within.f a0_1 0 (wrap64 (a0_0 - 1))).bind fun t172 => (some t172)) else (some false))) else (some false))
set_option maxHeartbeats 8000000 in
set_option maxRecDepth 100000 in
theorem impl_IsLattice.calls (a0_0 : Int) (a0_1 : Int) (a0_2 : Int) (r : Bool) (w : World) (h : impl_IsLattice.f a0_0 a0_1 a0_2 = some r) :
  Calls Try.prog 19 #[.agg #[.int .i64 a0_0, .int .i64 a0_1, .int .i64 a0_2]] w fun e w' => e = .returned (.bool r) ∧ Below w.heap.size w w' := by
 have hu30 := Try.underlying30
 have HB := am (Below.refl w.heap.size w)
 have H : ((impl_within.f a0_0 1 40).bind fun t170 => (if t170 = true then ((impl_within.f a0_2 1 40).bind fun t171 => (if t171 = true then ((impl_within.f a0_1 0 (wrap64 (a0_0 - 1))).bind fun t172 => (some t172)) else (some false))) else (some false))) = some r := h
 clear h
 replace H := ob H
 obtain ⟨t170, A20, H⟩ := H
 replace H : (if t170 = true then ((impl_within.f a0_2 1 40).bind fun t171 => (if t171 = true then ((impl_within.f a0_1 0 (wrap64 (a0_0 - 1))).bind fun t172 => (some t172)) else (some false))) else (some false)) = some r := H
 have A2 := am A20
 clear A20
 by_cases c3 : t170 = true
 ·subst c3
  have H1 : ((impl_within.f a0_2 1 40).bind fun t171 => (if t171 = true then ((impl_within.f a0_1 0 (wrap64 (a0_0 - 1))).bind fun t172 => (some t172)) else (some false))) = some r := by first | (rw [if_pos rfl] at H; exact H) | rfl
  clear H
  have H := H1
  clear H1
  replace H := ob H
  obtain ⟨t171, A40, H⟩ := H
  replace H : (if t171 = true then ((impl_within.f a0_1 0 (wrap64 (a0_0 - 1))).bind fun t172 => (some t172)) else (some false)) = some r := H
  have A4 := am A40
  clear A40
  by_cases c5 : t171 = true
  ·subst c5
   have H1 : ((impl_within.f a0_1 0 (wrap64 (a0_0 - 1))).bind fun t172 => (some t172)) = some r := by first | (rw [if_pos rfl] at H; exact H) | rfl
   clear H
   have H := H1
   clear H1
   replace H := ob H
   obtain ⟨t172, A60, H⟩ := H
   replace H : (some t172) = some r := H
   have A6 := am A60
   clear A60
   obtain rfl := oi H
   go_enter Try.func19, Try.ntmps19
   go_wp2_with (first | ((with_reducible refine gate_dst (N := 1) rfl ?_); refine box_event ?hg (N := 1) ?hd (cs := #[.int .i64 a0_0, .int .i64 a0_1, .int .i64 a0_2]) (t := 30) ?hr ?_; (case hd => rfl); (case hg => rfl); (case hr => first | (go_simp; done) | (go_simp; rfl)); intro gb169 hg w7 hbox hb; have n0_ := am (b6 (by repeat (first | (with_reducible first | exact HB.out | apply b1 | apply b2 | apply b3) | exact HB.out)) hb); have n1_ := am (hbox); have n2_ := am ((by rw [hg]; exact (b5 (by repeat (first | (with_reducible first | exact HB.out | apply b1 | apply b2 | apply b3) | exact HB.out))) : w.heap.size ≤ gb169)); have n3_ := n2_; clear HB; have HB := n0_; have BK169 := n1_; have GW169 := n2_; have GE169 := n3_; clear n0_ n1_ n2_ n3_; clear hb hbox hg; have hcz8_0 : w7.cell? ⟨gb169, 0, none⟩ = some (.int .i64 a0_0) := (kc BK169.out 0).trans rfl; have hcz8_1 : w7.cell? ⟨gb169, 1, none⟩ = some (.int .i64 a0_1) := (kc BK169.out 1).trans rfl; have hcz8_2 : w7.cell? ⟨gb169, 2, none⟩ = some (.int .i64 a0_2) := (kc BK169.out 2).trans rfl; have hfz8_0 := kf BK169.out 0; have hfz8_1 := kf BK169.out 1; have hfz8_2 := kf BK169.out 2) | ((with_reducible refine gate_callee (f := 29) rfl ?_); refine goesL_ (some 5) rfl rfl Try.func29 (by kernel_rfl) rfl #[.int .i64 a0_0, .int .i64 1, .int .i64 40] rfl (by (try simp only [List.map_toArray, List.map_cons, List.map_nil]); first | done | rfl | (simp only [List.length_drop, List.length_take]; rfl)) ?_; (with_reducible refine (impl_within.calls a0_0 1 40 true _ A2.out).mono ?_); rintro e w' ⟨rfl, ⟨nd, rfl⟩⟩; refine ⟨_, rfl, ?_⟩) | (go_at_call 29; (with_reducible refine (impl_within.calls a0_2 1 40 true _ A4.out).mono ?_); rintro e w' ⟨rfl, ⟨nd, rfl⟩⟩) | (go_at_call 29; (with_reducible refine (impl_within.calls a0_1 0 (wrap64 (a0_0 - 1)) t172 _ A6.out).mono ?_); rintro e w' ⟨rfl, ⟨nd, rfl⟩⟩))
   go_ret
   exact ⟨by first | rfl | (simp [errW_none, errW_some] <;> rfl) | (simp [*, errW_none, errW_some] <;> rfl), by repeat (first | (with_reducible first | exact HB.out | apply b1 | apply b2 | apply b3 | refine b4 ?_ GE169.out) | exact HB.out)⟩
  ·replace c5 := ef c5
   subst c5
   have H1 : (some false) = some r := by first | (rw [if_neg (show ¬ (false = true) by decide)] at H; exact H) | rfl
   clear H
   have H := H1
   clear H1
   obtain rfl := oi H
   go_enter Try.func19, Try.ntmps19
   go_wp2_with (first | ((with_reducible refine gate_dst (N := 1) rfl ?_); refine box_event ?hg (N := 1) ?hd (cs := #[.int .i64 a0_0, .int .i64 a0_1, .int .i64 a0_2]) (t := 30) ?hr ?_; (case hd => rfl); (case hg => rfl); (case hr => first | (go_simp; done) | (go_simp; rfl)); intro gb169 hg w9 hbox hb; have n0_ := am (b6 (by repeat (first | (with_reducible first | exact HB.out | apply b1 | apply b2 | apply b3) | exact HB.out)) hb); have n1_ := am (hbox); have n2_ := am ((by rw [hg]; exact (b5 (by repeat (first | (with_reducible first | exact HB.out | apply b1 | apply b2 | apply b3) | exact HB.out))) : w.heap.size ≤ gb169)); have n3_ := n2_; clear HB; have HB := n0_; have BK169 := n1_; have GW169 := n2_; have GE169 := n3_; clear n0_ n1_ n2_ n3_; clear hb hbox hg; have hcz10_0 : w9.cell? ⟨gb169, 0, none⟩ = some (.int .i64 a0_0) := (kc BK169.out 0).trans rfl; have hcz10_1 : w9.cell? ⟨gb169, 1, none⟩ = some (.int .i64 a0_1) := (kc BK169.out 1).trans rfl; have hcz10_2 : w9.cell? ⟨gb169, 2, none⟩ = some (.int .i64 a0_2) := (kc BK169.out 2).trans rfl; have hfz10_0 := kf BK169.out 0; have hfz10_1 := kf BK169.out 1; have hfz10_2 := kf BK169.out 2) | ((with_reducible refine gate_callee (f := 29) rfl ?_); refine goesL_ (some 5) rfl rfl Try.func29 (by kernel_rfl) rfl #[.int .i64 a0_0, .int .i64 1, .int .i64 40] rfl (by (try simp only [List.map_toArray, List.map_cons, List.map_nil]); first | done | rfl | (simp only [List.length_drop, List.length_take]; rfl)) ?_; (with_reducible refine (impl_within.calls a0_0 1 40 true _ A2.out).mono ?_); rintro e w' ⟨rfl, ⟨nd, rfl⟩⟩; refine ⟨_, rfl, ?_⟩) | (go_at_call 29; (with_reducible refine (impl_within.calls a0_2 1 40 false _ A4.out).mono ?_); rintro e w' ⟨rfl, ⟨nd, rfl⟩⟩))
   go_ret
   exact ⟨by first | rfl | (simp [errW_none, errW_some] <;> rfl) | (simp [*, errW_none, errW_some] <;> rfl), by repeat (first | (with_reducible first | exact HB.out | apply b1 | apply b2 | apply b3 | refine b4 ?_ GE169.out) | exact HB.out)⟩
 ·replace c3 := ef c3
  subst c3
  have H1 : (some false) = some r := by first | (rw [if_neg (show ¬ (false = true) by decide)] at H; exact H) | rfl
  clear H
  have H := H1
  clear H1
  obtain rfl := oi H
  go_enter Try.func19, Try.ntmps19
  go_wp2_with (first | ((with_reducible refine gate_dst (N := 1) rfl ?_); refine box_event ?hg (N := 1) ?hd (cs := #[.int .i64 a0_0, .int .i64 a0_1, .int .i64 a0_2]) (t := 30) ?hr ?_; (case hd => rfl); (case hg => rfl); (case hr => first | (go_simp; done) | (go_simp; rfl)); intro gb169 hg w11 hbox hb; have n0_ := am (b6 (by repeat (first | (with_reducible first | exact HB.out | apply b1 | apply b2 | apply b3) | exact HB.out)) hb); have n1_ := am (hbox); have n2_ := am ((by rw [hg]; exact (b5 (by repeat (first | (with_reducible first | exact HB.out | apply b1 | apply b2 | apply b3) | exact HB.out))) : w.heap.size ≤ gb169)); have n3_ := n2_; clear HB; have HB := n0_; have BK169 := n1_; have GW169 := n2_; have GE169 := n3_; clear n0_ n1_ n2_ n3_; clear hb hbox hg; have hcz12_0 : w11.cell? ⟨gb169, 0, none⟩ = some (.int .i64 a0_0) := (kc BK169.out 0).trans rfl; have hcz12_1 : w11.cell? ⟨gb169, 1, none⟩ = some (.int .i64 a0_1) := (kc BK169.out 1).trans rfl; have hcz12_2 : w11.cell? ⟨gb169, 2, none⟩ = some (.int .i64 a0_2) := (kc BK169.out 2).trans rfl; have hfz12_0 := kf BK169.out 0; have hfz12_1 := kf BK169.out 1; have hfz12_2 := kf BK169.out 2) | ((with_reducible refine gate_callee (f := 29) rfl ?_); refine goesL_ (some 5) rfl rfl Try.func29 (by kernel_rfl) rfl #[.int .i64 a0_0, .int .i64 1, .int .i64 40] rfl (by (try simp only [List.map_toArray, List.map_cons, List.map_nil]); first | done | rfl | (simp only [List.length_drop, List.length_take]; rfl)) ?_; (with_reducible refine (impl_within.calls a0_0 1 40 false _ A2.out).mono ?_); rintro e w' ⟨rfl, ⟨nd, rfl⟩⟩; refine ⟨_, rfl, ?_⟩))
  go_ret
  exact ⟨by first | rfl | (simp [errW_none, errW_some] <;> rfl) | (simp [*, errW_none, errW_some] <;> rfl), by repeat (first | (with_reducible first | exact HB.out | apply b1 | apply b2 | apply b3 | refine b4 ?_ GE169.out) | exact HB.out)⟩

/-! ### impl_modOf: function 44 -/
def impl_modOf.f (a0 : Int) (a1 : Int) : Option (Int) := if a1 = 0 then (none) else (some (Int.tmod (wrap64 ((Int.tmod a0 a1) + a1)) a1))
set_option maxHeartbeats 8000000 in
set_option maxRecDepth 100000 in
theorem impl_modOf.calls (a0 : Int) (a1 : Int) (r : Int) (w : World) (h : impl_modOf.f a0 a1 = some r) :
  Calls Try.prog 44 #[.int .i64 a0, .int .i64 a1] w fun e w' => e = .returned (.int .i64 r) ∧ Drawn0 w w' := by
 have H : (if a1 = 0 then (none) else (some (Int.tmod (wrap64 ((Int.tmod a0 a1) + a1)) a1))) = some r := h
 clear h
 by_cases c3 : a1 = 0
 ·rw [if_pos c3] at H
  exact absurd H (by simp)
 ·rw [if_neg c3] at H
  have c3b0 : (a1 == 0) = false := beq_eq_false_iff_ne.mpr c3
  have c3b1 : (a1 != 0) = true := bne_iff_ne.mpr c3
  obtain rfl := oi H
  go_enter Try.func44, Try.ntmps44
  go_wp2
  go_ret
  exact ⟨by first | rfl | (simp; done) | (simp [*]; done), by repeat (first | exact Drawn0.refl _ | apply Drawn0.step)⟩

/-! ### impl_Lattice_modulo: function 31 -/
def impl_Lattice_modulo.f (a0_0 : Int) (a0_1 : Int) (a0_2 : Int) (a1_0 : Int) (a1_1 : Int) : Option (Int × Int) := (impl_modOf.f a1_1 a0_2).bind fun t176 => (if a0_2 = 0 then (none) else ((impl_modOf.f (wrap64 (a1_0 - (wrap64 ((wrap64 (Int.tdiv (wrap64 (a1_1 - t176)) a0_2)) * a0_1)))) a0_0).bind fun t177 => (some (t177, t176))))
set_option maxHeartbeats 8000000 in
set_option maxRecDepth 100000 in
theorem impl_Lattice_modulo.calls (a0_0 : Int) (a0_1 : Int) (a0_2 : Int) (a1_0 : Int) (a1_1 : Int) (r1 : Int) (r2 : Int) (w : World) (h : impl_Lattice_modulo.f a0_0 a0_1 a0_2 a1_0 a1_1 = some (r1, r2)) :
  Calls Try.prog 31 #[.agg #[.int .i64 a0_0, .int .i64 a0_1, .int .i64 a0_2], .agg #[.int .i64 a1_0, .int .i64 a1_1]] w fun e w' => e = .returned (.agg #[.int .i64 r1, .int .i64 r2]) ∧ Below w.heap.size w w' := by
 have hu30 := Try.underlying30
 have hu37 := Try.underlying37
 have HB := am (Below.refl w.heap.size w)
 have H : ((impl_modOf.f a1_1 a0_2).bind fun t176 => (if a0_2 = 0 then (none) else ((impl_modOf.f (wrap64 (a1_0 - (wrap64 ((wrap64 (Int.tdiv (wrap64 (a1_1 - t176)) a0_2)) * a0_1)))) a0_0).bind fun t177 => (some (t177, t176))))) = some (r1, r2) := h
 clear h
 replace H := ob H
 obtain ⟨t176, A30, H⟩ := H
 replace H : (if a0_2 = 0 then (none) else ((impl_modOf.f (wrap64 (a1_0 - (wrap64 ((wrap64 (Int.tdiv (wrap64 (a1_1 - t176)) a0_2)) * a0_1)))) a0_0).bind fun t177 => (some (t177, t176)))) = some (r1, r2) := H
 have A3 := am A30
 clear A30
 by_cases c4 : a0_2 = 0
 ·rw [if_pos c4] at H
  exact absurd H (by simp)
 ·rw [if_neg c4] at H
  have c4b0 : (a0_2 == 0) = false := beq_eq_false_iff_ne.mpr c4
  have c4b1 : (a0_2 != 0) = true := bne_iff_ne.mpr c4
  replace H := ob H
  obtain ⟨t177, A50, H⟩ := H
  replace H : (some (t177, t176)) = some (r1, r2) := H
  have A5 := am A50
  clear A50
  simp only [Option.some.injEq, Prod.mk.injEq] at H
  obtain ⟨rfl, rfl⟩ := H
  go_enter Try.func31, Try.ntmps31
  go_wp2_with (first | ((with_reducible refine gate_dst (N := 2) rfl ?_); refine box_event ?hg (N := 2) ?hd (cs := #[.int .i64 a0_0, .int .i64 a0_1, .int .i64 a0_2]) (t := 30) ?hr ?_; (case hd => rfl); (case hg => rfl); (case hr => first | (go_simp; done) | (go_simp; rfl)); intro gb173 hg w6 hbox hb; have n0_ := am (b6 (by repeat (first | (with_reducible first | exact HB.out | apply b1 | apply b2 | apply b3) | exact HB.out)) hb); have n1_ := am (hbox); have n2_ := am ((by rw [hg]; exact (b5 (by repeat (first | (with_reducible first | exact HB.out | apply b1 | apply b2 | apply b3) | exact HB.out))) : w.heap.size ≤ gb173)); have n3_ := n2_; clear HB; have HB := n0_; have BK173 := n1_; have GW173 := n2_; have GE173 := n3_; clear n0_ n1_ n2_ n3_; clear hb hbox hg) | ((with_reducible refine gate_dst (N := 3) rfl ?_); refine box_event ?hg (N := 3) ?hd (cs := #[.int .i64 a1_0, .int .i64 a1_1]) (t := 37) ?hr ?_; (case hd => rfl); (case hg => rfl); (case hr => first | (go_simp; done) | (go_simp; rfl)); intro gb174 hg w7 hbox hb; have n0_ := am (k4 (g := gb173) (o := .cells #[.int .i64 a0_0, .int .i64 a0_1, .int .i64 a0_2] 30 (0, 0)) (by (with_reducible repeat (first | refine k2 ?_ _ | refine k3 ?_ | refine k1 ?_ _)); exact BK173.out) hb); have n1_ := am (b6 (by repeat (first | (with_reducible first | exact HB.out | apply b1 | apply b2 | apply b3 | refine b4 ?_ GE173.out) | exact HB.out)) hb); have n2_ := am (hbox); have n3_ := am ((by rw [hg]; exact (b5 (by repeat (first | (with_reducible first | exact HB.out | apply b1 | apply b2 | apply b3 | refine b4 ?_ GE173.out) | exact HB.out))) : w.heap.size ≤ gb174)); have n4_ := n3_; have n5_ := am ((by rw [hg]; exact nl (k5 (g := gb173) (o := .cells #[.int .i64 a0_0, .int .i64 a0_1, .int .i64 a0_2] 30 (0, 0)) (by (with_reducible repeat (first | refine k2 ?_ _ | refine k3 ?_ | refine k1 ?_ _)); exact BK173.out)) : gb173 ≠ gb174)); have n6_ := am ((by rw [hg]; exact ng (k5 (g := gb173) (o := .cells #[.int .i64 a0_0, .int .i64 a0_1, .int .i64 a0_2] 30 (0, 0)) (by (with_reducible repeat (first | refine k2 ?_ _ | refine k3 ?_ | refine k1 ?_ _)); exact BK173.out)) : gb174 ≠ gb173)); clear BK173; clear HB; have BK173 := n0_; have HB := n1_; have BK174 := n2_; have GW174 := n3_; have GE174 := n4_; have NB173_174 := n5_; have NB174_173 := n6_; clear n0_ n1_ n2_ n3_ n4_ n5_ n6_; clear hb hbox hg) | ((with_reducible refine gate_dst (N := 4) rfl ?_); refine box_event ?hg (N := 4) ?hd (cs := #[.int .i64 0, .int .i64 0]) (t := 37) ?hr ?_; (case hd => rfl); (case hg => rfl); (case hr => first | (go_simp; done) | (go_simp; rfl)); intro gb175 hg w8 hbox hb; have n0_ := am (k4 (g := gb173) (o := .cells #[.int .i64 a0_0, .int .i64 a0_1, .int .i64 a0_2] 30 (0, 0)) (by (with_reducible repeat (first | refine k2 ?_ _ | refine k3 ?_ | refine k1 ?_ _)); exact BK173.out) hb); have n1_ := am (k4 (g := gb174) (o := .cells #[.int .i64 a1_0, .int .i64 a1_1] 37 (0, 0)) (by (with_reducible repeat (first | refine k2 ?_ _ | refine k3 ?_ | refine k1 ?_ _)); exact BK174.out) hb); have n2_ := am (b6 (by repeat (first | (with_reducible first | exact HB.out | apply b1 | apply b2 | apply b3 | refine b4 ?_ GE173.out | refine b4 ?_ GE174.out) | exact HB.out)) hb); have n3_ := am (hbox); have n4_ := am ((by rw [hg]; exact (b5 (by repeat (first | (with_reducible first | exact HB.out | apply b1 | apply b2 | apply b3 | refine b4 ?_ GE173.out | refine b4 ?_ GE174.out) | exact HB.out))) : w.heap.size ≤ gb175)); have n5_ := n4_; have n6_ := am ((by rw [hg]; exact nl (k5 (g := gb173) (o := .cells #[.int .i64 a0_0, .int .i64 a0_1, .int .i64 a0_2] 30 (0, 0)) (by (with_reducible repeat (first | refine k2 ?_ _ | refine k3 ?_ | refine k1 ?_ _)); exact BK173.out)) : gb173 ≠ gb175)); have n7_ := am ((by rw [hg]; exact ng (k5 (g := gb173) (o := .cells #[.int .i64 a0_0, .int .i64 a0_1, .int .i64 a0_2] 30 (0, 0)) (by (with_reducible repeat (first | refine k2 ?_ _ | refine k3 ?_ | refine k1 ?_ _)); exact BK173.out)) : gb175 ≠ gb173)); have n8_ := am ((by rw [hg]; exact nl (k5 (g := gb174) (o := .cells #[.int .i64 a1_0, .int .i64 a1_1] 37 (0, 0)) (by (with_reducible repeat (first | refine k2 ?_ _ | refine k3 ?_ | refine k1 ?_ _)); exact BK174.out)) : gb174 ≠ gb175)); have n9_ := am ((by rw [hg]; exact ng (k5 (g := gb174) (o := .cells #[.int .i64 a1_0, .int .i64 a1_1] 37 (0, 0)) (by (with_reducible repeat (first | refine k2 ?_ _ | refine k3 ?_ | refine k1 ?_ _)); exact BK174.out)) : gb175 ≠ gb174)); clear BK173; clear BK174; clear HB; have BK173 := n0_; have BK174 := n1_; have HB := n2_; have BK175 := n3_; have GW175 := n4_; have GE175 := n5_; have NB173_175 := n6_; have NB175_173 := n7_; have NB174_175 := n8_; have NB175_174 := n9_; clear n0_ n1_ n2_ n3_ n4_ n5_ n6_ n7_ n8_ n9_; clear hb hbox hg; have hnb9 := NB174_173.out; have hnc9 := NB173_174.out; have hnb10 := NB174_175.out; have hnc10 := NB175_174.out; have hcz11_0 : w8.cell? ⟨gb174, 0, none⟩ = some (.int .i64 a1_0) := (kc BK174.out 0).trans rfl; have hcz11_1 : w8.cell? ⟨gb174, 1, none⟩ = some (.int .i64 a1_1) := (kc BK174.out 1).trans rfl; have hfz11_0 := kf BK174.out 0; have hfz11_1 := kf BK174.out 1; have hnb12 := NB173_175.out; have hnc12 := NB175_173.out; have hcz13_0 : w8.cell? ⟨gb173, 0, none⟩ = some (.int .i64 a0_0) := (kc BK173.out 0).trans rfl; have hcz13_1 : w8.cell? ⟨gb173, 1, none⟩ = some (.int .i64 a0_1) := (kc BK173.out 1).trans rfl; have hcz13_2 : w8.cell? ⟨gb173, 2, none⟩ = some (.int .i64 a0_2) := (kc BK173.out 2).trans rfl; have hfz13_0 := kf BK173.out 0; have hfz13_1 := kf BK173.out 1; have hfz13_2 := kf BK173.out 2) | ((with_reducible refine gate_callee (f := 44) rfl ?_); refine goesL_ (some 11) rfl rfl Try.func44 (by kernel_rfl) rfl #[.int .i64 a1_1, .int .i64 a0_2] rfl (by (try simp only [List.map_toArray, List.map_cons, List.map_nil]); first | done | rfl | (simp only [List.length_drop, List.length_take]; rfl)) ?_; (with_reducible refine (impl_modOf.calls a1_1 a0_2 t176 _ A3.out).mono ?_); rintro e w' ⟨rfl, ⟨nd, rfl⟩⟩; refine ⟨_, rfl, ?_⟩; (try (rw [drewN_self w8]; generalize hq_ : World.drewN w8 _ = w8; have n0_ : Aside0 (w8.heap[gb173]? = some (.cells #[.int .i64 a0_0, .int .i64 a0_1, .int .i64 a0_2] 30 (0, 0))) := ⟨by rw [← hq_]; exact (by (with_reducible repeat (first | refine k2 ?_ _ | refine k3 ?_ | refine k1 ?_ _)); exact BK173.out)⟩; have n1_ : Aside0 (w8.heap[gb174]? = some (.cells #[.int .i64 a1_0, .int .i64 a1_1] 37 (0, 0))) := ⟨by rw [← hq_]; exact (by (with_reducible repeat (first | refine k2 ?_ _ | refine k3 ?_ | refine k1 ?_ _)); exact BK174.out)⟩; have n2_ : Aside0 (w8.heap[gb175]? = some (.cells #[.int .i64 0, .int .i64 0] 37 (0, 0))) := ⟨by rw [← hq_]; exact (by (with_reducible repeat (first | refine k2 ?_ _ | refine k3 ?_ | refine k1 ?_ _)); exact BK175.out)⟩; have n3_ : Aside0 (Below w.heap.size w w8) := ⟨by rw [← hq_]; exact (by repeat (first | (with_reducible first | exact HB.out | apply b1 | apply b2 | apply b3 | refine b4 ?_ GE173.out | refine b4 ?_ GE174.out | refine b4 ?_ GE175.out) | exact HB.out))⟩; clear BK173 BK174 BK175 HB hq_; have BK173 := n0_; have BK174 := n1_; have BK175 := n2_; have HB := n3_; clear n0_ n1_ n2_ n3_)); (try (have hcz14_0 : w8.cell? ⟨gb173, 0, none⟩ = some (.int .i64 a0_0) := (kc BK173.out 0).trans rfl; have hcz14_1 : w8.cell? ⟨gb173, 1, none⟩ = some (.int .i64 a0_1) := (kc BK173.out 1).trans rfl; have hcz14_2 : w8.cell? ⟨gb173, 2, none⟩ = some (.int .i64 a0_2) := (kc BK173.out 2).trans rfl; have hfz14_0 := kf BK173.out 0; have hfz14_1 := kf BK173.out 1; have hfz14_2 := kf BK173.out 2)); (try (have hcz15_0 : w8.cell? ⟨gb174, 0, none⟩ = some (.int .i64 a1_0) := (kc BK174.out 0).trans rfl; have hcz15_1 : w8.cell? ⟨gb174, 1, none⟩ = some (.int .i64 a1_1) := (kc BK174.out 1).trans rfl; have hfz15_0 := kf BK174.out 0; have hfz15_1 := kf BK174.out 1))) | ((with_reducible refine gate_callee (f := 44) rfl ?_); refine goesL_ (some 28) rfl rfl Try.func44 (by kernel_rfl) rfl #[.int .i64 (wrap64 (a1_0 - (wrap64 ((wrap64 (Int.tdiv (wrap64 (a1_1 - t176)) a0_2)) * a0_1)))), .int .i64 a0_0] rfl (by (try simp only [List.map_toArray, List.map_cons, List.map_nil]); first | done | rfl | (simp only [List.length_drop, List.length_take]; rfl)) ?_; (with_reducible refine (impl_modOf.calls (wrap64 (a1_0 - (wrap64 ((wrap64 (Int.tdiv (wrap64 (a1_1 - t176)) a0_2)) * a0_1)))) a0_0 t177 _ A5.out).mono ?_); rintro e w' ⟨rfl, ⟨nd, rfl⟩⟩; refine ⟨_, rfl, ?_⟩; (try (rw [drewN_self w8]; generalize hq_ : World.drewN w8 _ = w8; have n0_ : Aside0 (w8.heap[gb173]? = some (.cells #[.int .i64 a0_0, .int .i64 a0_1, .int .i64 a0_2] 30 (0, 0))) := ⟨by rw [← hq_]; exact (by (with_reducible repeat (first | refine k2 ?_ _ | refine k3 ?_ | refine k1 ?_ _)); exact BK173.out)⟩; have n1_ : Aside0 (w8.heap[gb174]? = some (.cells #[.int .i64 a1_0, .int .i64 a1_1] 37 (0, 0))) := ⟨by rw [← hq_]; exact (by (with_reducible repeat (first | refine k2 ?_ _ | refine k3 ?_ | refine k1 ?_ _)); exact BK174.out)⟩; have n2_ : Aside0 (w8.heap[gb175]? = some (.cells #[.int .i64 0, .int .i64 0] 37 (0, 0))) := ⟨by rw [← hq_]; exact (by (with_reducible repeat (first | refine k2 ?_ _ | refine k3 ?_ | refine k1 ?_ _)); exact BK175.out)⟩; have n3_ : Aside0 (Below w.heap.size w w8) := ⟨by rw [← hq_]; exact (by repeat (first | (with_reducible first | exact HB.out | apply b1 | apply b2 | apply b3 | refine b4 ?_ GE173.out | refine b4 ?_ GE174.out | refine b4 ?_ GE175.out) | exact HB.out))⟩; clear BK173 BK174 BK175 HB hq_; have BK173 := n0_; have BK174 := n1_; have BK175 := n2_; have HB := n3_; clear n0_ n1_ n2_ n3_)); (try (have hcz16_0 : w8.cell? ⟨gb173, 0, none⟩ = some (.int .i64 a0_0) := (kc BK173.out 0).trans rfl; have hcz16_1 : w8.cell? ⟨gb173, 1, none⟩ = some (.int .i64 a0_1) := (kc BK173.out 1).trans rfl; have hcz16_2 : w8.cell? ⟨gb173, 2, none⟩ = some (.int .i64 a0_2) := (kc BK173.out 2).trans rfl; have hfz16_0 := kf BK173.out 0; have hfz16_1 := kf BK173.out 1; have hfz16_2 := kf BK173.out 2)); (try (have hcz17_0 : w8.cell? ⟨gb174, 0, none⟩ = some (.int .i64 a1_0) := (kc BK174.out 0).trans rfl; have hcz17_1 : w8.cell? ⟨gb174, 1, none⟩ = some (.int .i64 a1_1) := (kc BK174.out 1).trans rfl; have hfz17_0 := kf BK174.out 0; have hfz17_1 := kf BK174.out 1)); have hcz18_0 : w8.cell? ⟨gb175, 0, none⟩ = some (.int .i64 0) := (kc BK175.out 0).trans rfl; have hcz18_1 : w8.cell? ⟨gb175, 1, none⟩ = some (.int .i64 0) := (kc BK175.out 1).trans rfl; have hfz18_0 := kf BK175.out 0; have hfz18_1 := kf BK175.out 1))
  refine bodyPost_ret (results_cell_row rfl _ _ gb175 37 #[.int .i64 t177, .int .i64 t176] (0, 0) _ rfl (by (with_reducible repeat (first | refine k2 ?_ _ | refine k3 ?_ | refine k1 ?_ _)); refine blk_put (cs := #[.int .i64 t177, .int .i64 0]) ?_ 1 _ rfl; (with_reducible repeat (first | refine k2 ?_ _ | refine k3 ?_ | refine k1 ?_ _)); refine blk_put (cs := #[.int .i64 0, .int .i64 0]) ?_ 0 _ rfl; (with_reducible repeat (first | refine k2 ?_ _ | refine k3 ?_ | refine k1 ?_ _)); exact BK175.out) Try.underlying37 rfl (by kernel_rfl)) rfl ?_
  exact ⟨by first | rfl | (simp [errW_none, errW_some] <;> rfl) | (simp [*, errW_none, errW_some] <;> rfl), by repeat (first | (with_reducible first | exact HB.out | apply b1 | apply b2 | apply b3 | refine b4 ?_ GE173.out | refine b4 ?_ GE174.out | refine b4 ?_ GE175.out) | exact HB.out)⟩

/-! ### impl_isCoordinate: function 36 -/
def impl_isCoordinate.f (a0 : Int) : Option (Bool) := (impl_within.f a0 (-100) 100).bind fun t178 => (some t178)
set_option maxHeartbeats 8000000 in
set_option maxRecDepth 100000 in
theorem impl_isCoordinate.calls (a0 : Int) (r : Bool) (w : World) (h : impl_isCoordinate.f a0 = some r) :
  Calls Try.prog 36 #[.int .i64 a0] w fun e w' => e = .returned (.bool r) ∧ Drawn0 w w' := by
 have H : ((impl_within.f a0 (-100) 100).bind fun t178 => (some t178)) = some r := h
 clear h
 replace H := ob H
 obtain ⟨t178, A20, H⟩ := H
 replace H : (some t178) = some r := H
 have A2 := am A20
 clear A20
 obtain rfl := oi H
 go_enter Try.func36, Try.ntmps36
 go_wp2_with (first | ((with_reducible refine gate_callee (f := 29) rfl ?_); refine goesL_ (some 4) rfl rfl Try.func29 (by kernel_rfl) rfl #[.int .i64 a0, .int .i64 (-100), .int .i64 100] rfl (by (try simp only [List.map_toArray, List.map_cons, List.map_nil]); first | done | rfl | (simp only [List.length_drop, List.length_take]; rfl)) ?_; (with_reducible refine (impl_within.calls a0 (-100) 100 t178 _ A2.out).mono ?_); rintro e w' ⟨rfl, ⟨nd, rfl⟩⟩; refine ⟨_, rfl, ?_⟩))
 go_ret
 exact ⟨by first | rfl | (simp; done) | (simp [*]; done), by repeat (first | exact Drawn0.refl _ | apply Drawn0.step)⟩

end Go.Proofs.Ytcgnnfaemjjljaa.Q
