/- Written by a program of this session (wip/tools/pp.py) out of the translation, with the kit's printer. -/
import Derived.Test.YtabmmhkikemdjaaQ0
import Derived.Test.YtabmmhkikemdjaaQGimplIsFormula
namespace Go.Proofs.Ytabmmhkikemdjaa.Q
open Go.RowKit Go.Proofs.YtabmmhkikemdjaaW.PrintWords Go.Proofs.YtabmmhkikemdjaaW.PrintLast Go.Proofs.YtabmmhkikemdjaaW.PrintMore
attribute [local go_sem] max2_int min2_int max_two min_two max_three min_three max_four min_four
set_option linter.unusedVariables false
set_option linter.unusedSimpArgs false

/-! ### impl_AssignmentsOf: function 9 -/
mutual
def impl_AssignmentsOf.l0 : Nat → List Int → List Int → List (List Int) → Int → Int → Int → List (List Int) → Option (Int × Int)
 | 0, _, _, _, _, _, _, _ => none
 | k + 1, x4, x5, x29, x30, x31, x165000, x165001 => if x31 < x30 then (if 0 ≤ x31 then (if x31 < (x29.length : Int) then (impl_AssignmentsOf.l1 k x4 x5 x31 x29 x30 x31 (rd_L1 x29 x31) ((rd_L1 x29 x31).length : Int) 0 x165000 x165001) else (none)) else (none)) else (if 0 ≤ (IntKind.u64.wrap (x165000)) then (impl_AssignmentsOf.l2 k x4 x5 0 (shl .u64 1 (IntKind.u64.wrap (x165000))) 0) else (none))
def impl_AssignmentsOf.l1 : Nat → List Int → List Int → Int → List (List Int) → Int → Int → List Int → Int → Int → Int → List (List Int) → Option (Int × Int)
 | 0, _, _, _, _, _, _, _, _, _, _, _ => none
 | k + 1, x4, x5, x6, x29, x30, x31, x36, x37, x38, x165000, x165001 => if x38 < x37 then (if 0 ≤ x38 then (if x38 < (x36.length : Int) then (if (rd x36 x38) > 0 then (if 0 ≤ x6 then (if x6 < (x4.length : Int) then (if 0 ≤ (IntKind.u64.wrap (wrap64 ((rd x36 x38) - 1))) then (impl_AssignmentsOf.l1 k (x4.set (x6 : Int).toNat (Go.bits .or .u64 (rd x4 x6) (shl .u64 1 (IntKind.u64.wrap (wrap64 ((rd x36 x38) - 1)))))) x5 x6 x29 x30 x31 x36 x37 (wrap64 (x38 + 1)) x165000 x165001) else (none)) else (none)) else (none)) else (if 0 ≤ x6 then (if x6 < (x5.length : Int) then (if 0 ≤ (IntKind.u64.wrap (wrap64 ((wrap64 (-(rd x36 x38))) - 1))) then (impl_AssignmentsOf.l1 k x4 (x5.set (x6 : Int).toNat (Go.bits .or .u64 (rd x5 x6) (shl .u64 1 (IntKind.u64.wrap (wrap64 ((wrap64 (-(rd x36 x38))) - 1)))))) x6 x29 x30 x31 x36 x37 (wrap64 (x38 + 1)) x165000 x165001) else (none)) else (none)) else (none))) else (none)) else (none)) else (impl_AssignmentsOf.l0 k x4 x5 x29 x30 (wrap64 (x31 + 1)) x165000 x165001)
def impl_AssignmentsOf.l2 : Nat → List Int → List Int → Int → Int → Int → Option (Int × Int)
 | 0, _, _, _, _, _ => none
 | k + 1, x4, x5, x10, x70, x71 => if x71 < x70 then (impl_AssignmentsOf.l3 k x4 x5 x10 x71 true 0 x70 x71) else (some (x10, 0))
def impl_AssignmentsOf.l3 : Nat → List Int → List Int → Int → Int → Bool → Int → Int → Int → Option (Int × Int)
 | 0, _, _, _, _, _, _, _, _ => none
 | k + 1, x4, x5, x10, x11, x12, x13, x70, x71 => if x12 = true then (if x13 < (x4.length : Int) then (if 0 ≤ x13 then (if (Go.bits .and .u64 x11 (rd x4 x13)) = 0 then (if x13 < (x5.length : Int) then (impl_AssignmentsOf.l3 k x4 x5 x10 x11 ((Go.bits .and .u64 (Go.bits .xor .u64 18446744073709551615 x11) (rd x5 x13)) != 0) (wrap64 (x13 + 1)) x70 x71) else (none)) else (impl_AssignmentsOf.l3 k x4 x5 x10 x11 true (wrap64 (x13 + 1)) x70 x71)) else (none)) else (impl_AssignmentsOf.l2 k x4 x5 (wrap64 (x10 + 1)) x70 (IntKind.u64.wrap (x71 + 1)))) else (impl_AssignmentsOf.l2 k x4 x5 x10 x70 (IntKind.u64.wrap (x71 + 1)))
end
def impl_AssignmentsOf.f (k : Nat) (a0_0 : Int) (l0_1 : List (List Int)) : Option (Int × Int) := (impl_IsFormula.f k a0_0 l0_1).bind fun t165 => (if t165 = true then (if a0_0 > 12 then (some (0, 2)) else (if 0 ≤ (l0_1.length : Int) then (if ((l0_1.length : Int) : Int).toNat ≤ 35184372088832 then (impl_AssignmentsOf.l0 k (List.replicate ((l0_1.length : Int) : Int).toNat 0) (List.replicate ((l0_1.length : Int) : Int).toNat 0) l0_1 (l0_1.length : Int) 0 a0_0 l0_1) else (none)) else (none))) else (some (0, 1)))
theorem impl_AssignmentsOf.mono_l : ∀ k, (∀ y0 y1 y2 y3 y4 y5 y6, LeO (impl_AssignmentsOf.l0 k y0 y1 y2 y3 y4 y5 y6) (impl_AssignmentsOf.l0 (k + 1) y0 y1 y2 y3 y4 y5 y6)) ∧ (∀ y0 y1 y2 y3 y4 y5 y6 y7 y8 y9 y10, LeO (impl_AssignmentsOf.l1 k y0 y1 y2 y3 y4 y5 y6 y7 y8 y9 y10) (impl_AssignmentsOf.l1 (k + 1) y0 y1 y2 y3 y4 y5 y6 y7 y8 y9 y10)) ∧ (∀ y0 y1 y2 y3 y4, LeO (impl_AssignmentsOf.l2 k y0 y1 y2 y3 y4) (impl_AssignmentsOf.l2 (k + 1) y0 y1 y2 y3 y4)) ∧ (∀ y0 y1 y2 y3 y4 y5 y6 y7, LeO (impl_AssignmentsOf.l3 k y0 y1 y2 y3 y4 y5 y6 y7) (impl_AssignmentsOf.l3 (k + 1) y0 y1 y2 y3 y4 y5 y6 y7))
 | 0 => ⟨fun _ _ _ _ _ _ _ r h => by simp [impl_AssignmentsOf.l0] at h, fun _ _ _ _ _ _ _ _ _ _ _ r h => by simp [impl_AssignmentsOf.l1] at h, fun _ _ _ _ _ r h => by simp [impl_AssignmentsOf.l2] at h, fun _ _ _ _ _ _ _ _ r h => by simp [impl_AssignmentsOf.l3] at h⟩
 | k + 1 => by
  obtain ⟨ih0, ih1, ih2, ih3⟩ := impl_AssignmentsOf.mono_l k
  refine ⟨?_, ?_, ?_, ?_⟩
  ·intro y0 y1 y2 y3 y4 y5 y6
   unfold impl_AssignmentsOf.l0
   repeat' first
   | (with_reducible exact ih0 _ _ _ _ _ _ _)
   | (with_reducible exact ih1 _ _ _ _ _ _ _ _ _ _ _)
   | (with_reducible exact ih2 _ _ _ _ _)
   | (with_reducible exact ih3 _ _ _ _ _ _ _ _)
   | (with_reducible exact impl_IsFormula.mono _ _ _)
   | (with_reducible exact LeO.refl _)
   | (with_reducible exact LeO.none _)
   | (with_reducible refine LeO.ite ?_ ?_)
   | (with_reducible refine LeO.bind ?_ (fun _ => ?_))
   | exact ih0 _ _ _ _ _ _ _
   | exact ih1 _ _ _ _ _ _ _ _ _ _ _
   | exact ih2 _ _ _ _ _
   | exact ih3 _ _ _ _ _ _ _ _
   | exact impl_IsFormula.mono _ _ _
   | exact LeO.none _
   | refine LeO.ite ?_ ?_
   | refine LeO.bind ?_ (fun _ => ?_)
  ·intro y0 y1 y2 y3 y4 y5 y6 y7 y8 y9 y10
   unfold impl_AssignmentsOf.l1
   repeat' first
   | (with_reducible exact ih0 _ _ _ _ _ _ _)
   | (with_reducible exact ih1 _ _ _ _ _ _ _ _ _ _ _)
   | (with_reducible exact ih2 _ _ _ _ _)
   | (with_reducible exact ih3 _ _ _ _ _ _ _ _)
   | (with_reducible exact impl_IsFormula.mono _ _ _)
   | (with_reducible exact LeO.refl _)
   | (with_reducible exact LeO.none _)
   | (with_reducible refine LeO.ite ?_ ?_)
   | (with_reducible refine LeO.bind ?_ (fun _ => ?_))
   | exact ih0 _ _ _ _ _ _ _
   | exact ih1 _ _ _ _ _ _ _ _ _ _ _
   | exact ih2 _ _ _ _ _
   | exact ih3 _ _ _ _ _ _ _ _
   | exact impl_IsFormula.mono _ _ _
   | exact LeO.none _
   | refine LeO.ite ?_ ?_
   | refine LeO.bind ?_ (fun _ => ?_)
  ·intro y0 y1 y2 y3 y4
   unfold impl_AssignmentsOf.l2
   repeat' first
   | (with_reducible exact ih0 _ _ _ _ _ _ _)
   | (with_reducible exact ih1 _ _ _ _ _ _ _ _ _ _ _)
   | (with_reducible exact ih2 _ _ _ _ _)
   | (with_reducible exact ih3 _ _ _ _ _ _ _ _)
   | (with_reducible exact impl_IsFormula.mono _ _ _)
   | (with_reducible exact LeO.refl _)
   | (with_reducible exact LeO.none _)
   | (with_reducible refine LeO.ite ?_ ?_)
   | (with_reducible refine LeO.bind ?_ (fun _ => ?_))
   | exact ih0 _ _ _ _ _ _ _
   | exact ih1 _ _ _ _ _ _ _ _ _ _ _
   | exact ih2 _ _ _ _ _
   | exact ih3 _ _ _ _ _ _ _ _
   | exact impl_IsFormula.mono _ _ _
   | exact LeO.none _
   | refine LeO.ite ?_ ?_
   | refine LeO.bind ?_ (fun _ => ?_)
  ·intro y0 y1 y2 y3 y4 y5 y6 y7
   unfold impl_AssignmentsOf.l3
   repeat' first
   | (with_reducible exact ih0 _ _ _ _ _ _ _)
   | (with_reducible exact ih1 _ _ _ _ _ _ _ _ _ _ _)
   | (with_reducible exact ih2 _ _ _ _ _)
   | (with_reducible exact ih3 _ _ _ _ _ _ _ _)
   | (with_reducible exact impl_IsFormula.mono _ _ _)
   | (with_reducible exact LeO.refl _)
   | (with_reducible exact LeO.none _)
   | (with_reducible refine LeO.ite ?_ ?_)
   | (with_reducible refine LeO.bind ?_ (fun _ => ?_))
   | exact ih0 _ _ _ _ _ _ _
   | exact ih1 _ _ _ _ _ _ _ _ _ _ _
   | exact ih2 _ _ _ _ _
   | exact ih3 _ _ _ _ _ _ _ _
   | exact impl_IsFormula.mono _ _ _
   | exact LeO.none _
   | refine LeO.ite ?_ ?_
   | refine LeO.bind ?_ (fun _ => ?_)
theorem impl_AssignmentsOf.mono : ∀ a0 a1 k, LeO (impl_AssignmentsOf.f k a0 a1) (impl_AssignmentsOf.f (k + 1) a0 a1) := by
 intro a0 a1 k
 obtain ⟨ih0, ih1, ih2, ih3⟩ := impl_AssignmentsOf.mono_l k
 unfold impl_AssignmentsOf.f
 repeat' first
   | (with_reducible exact ih0 _ _ _ _ _ _ _)
   | (with_reducible exact ih1 _ _ _ _ _ _ _ _ _ _ _)
   | (with_reducible exact ih2 _ _ _ _ _)
   | (with_reducible exact ih3 _ _ _ _ _ _ _ _)
   | (with_reducible exact impl_IsFormula.mono _ _ _)
   | (with_reducible exact LeO.refl _)
   | (with_reducible exact LeO.none _)
   | (with_reducible refine LeO.ite ?_ ?_)
   | (with_reducible refine LeO.bind ?_ (fun _ => ?_))
   | exact ih0 _ _ _ _ _ _ _
   | exact ih1 _ _ _ _ _ _ _ _ _ _ _
   | exact ih2 _ _ _ _ _
   | exact ih3 _ _ _ _ _ _ _ _
   | exact impl_IsFormula.mono _ _ _
   | exact LeO.none _
   | refine LeO.ite ?_ ?_
   | refine LeO.bind ?_ (fun _ => ?_)
set_option maxHeartbeats 8000000 in
set_option maxRecDepth 100000 in
theorem impl_AssignmentsOf.calls (k : Nat) (a0_0 : Int) (A0_1 : Option Addr) (c0_1 : Nat) (l0_1 : List (List Int)) (r1 : Int) (r2 : Int) (w : World) (hr0_1 : Kd.C (Kd.slice 2 (Kd.int .i64)) w A0_1 l0_1.length l0_1) (hc0_1 : l0_1.length ≤ c0_1) (h : impl_AssignmentsOf.f k a0_0 l0_1 = some (r1, r2)) :
  Calls Try.prog 9 #[.agg #[.int .i64 a0_0, .slice A0_1 l0_1.length c0_1]] w fun e w' => e = .returned (.tuple #[.int .i64 r1, .int .i64 r2]) ∧ Below w.heap.size w w' := by
 have hu28 := Try.underlying28
 have HR0_1 := am hr0_1
 have HC0_1 := am hc0_1
 clear hr0_1 hc0_1
 have HB := am (Below.refl w.heap.size w)
 have H : ((impl_IsFormula.f k a0_0 l0_1).bind fun t165 => (if t165 = true then (if a0_0 > 12 then (some (0, 2)) else (if 0 ≤ (l0_1.length : Int) then (if ((l0_1.length : Int) : Int).toNat ≤ 35184372088832 then (impl_AssignmentsOf.l0 k (List.replicate ((l0_1.length : Int) : Int).toNat 0) (List.replicate ((l0_1.length : Int) : Int).toNat 0) l0_1 (l0_1.length : Int) 0 a0_0 l0_1) else (none)) else (none))) else (some (0, 1)))) = some (r1, r2) := h
 clear h
 replace H := ob H
 obtain ⟨t165, A20, H⟩ := H
 replace H : (if t165 = true then (if a0_0 > 12 then (some (0, 2)) else (if 0 ≤ (l0_1.length : Int) then (if ((l0_1.length : Int) : Int).toNat ≤ 35184372088832 then (impl_AssignmentsOf.l0 k (List.replicate ((l0_1.length : Int) : Int).toNat 0) (List.replicate ((l0_1.length : Int) : Int).toNat 0) l0_1 (l0_1.length : Int) 0 a0_0 l0_1) else (none)) else (none))) else (some (0, 1))) = some (r1, r2) := H
 have A2 := am A20
 clear A20
 by_cases c3 : t165 = true
 ·subst c3
  have H1 : (if a0_0 > 12 then (some (0, 2)) else (if 0 ≤ (l0_1.length : Int) then (if ((l0_1.length : Int) : Int).toNat ≤ 35184372088832 then (impl_AssignmentsOf.l0 k (List.replicate ((l0_1.length : Int) : Int).toNat 0) (List.replicate ((l0_1.length : Int) : Int).toNat 0) l0_1 (l0_1.length : Int) 0 a0_0 l0_1) else (none)) else (none))) = some (r1, r2) := by first | (rw [if_pos rfl] at H; exact H) | rfl
  clear H
  have H := H1
  clear H1
  by_cases c4 : a0_0 > 12
  ·rw [if_pos c4] at H
   have c4b0 : decide (12 < a0_0) = true := decide_eq_true c4
   clear c4
   simp only [Option.some.injEq, Prod.mk.injEq] at H
   obtain ⟨rfl, rfl⟩ := H
   go_enter Try.func9, Try.ntmps9
   go_wp2_with (first | ((with_reducible refine gate_dst (N := 1) rfl ?_); (try (refine gate_guard (by rfl) ?_; dsimp only)); refine box_event ?hg (N := 1) ?hd (cs := #[.int .i64 a0_0, .slice A0_1 l0_1.length c0_1]) (t := 28) ?hr ?_; (case hd => rfl); (case hg => rfl); (case hr => first | (go_simp; done) | (go_simp; rfl)); intro gb164 hg w5 hbox hb; have n0_ := am (b6 (by repeat (first | (with_reducible first | exact HB.out | apply b1 | apply b2 | apply b3) | exact HB.out)) hb); have n1_ := am (hbox); have n2_ := am ((by rw [hg]; exact (b5 (by repeat (first | (with_reducible first | exact HB.out | apply b1 | apply b2 | apply b3) | exact HB.out))) : w.heap.size ≤ gb164)); have n3_ := n2_; clear HB; have HB := n0_; have BK164 := n1_; have GW164 := n2_; have GE164 := n3_; clear n0_ n1_ n2_ n3_; clear hb hbox hg; have hcz6_0 : w5.cell? ⟨gb164, 0, none⟩ = some (.int .i64 a0_0) := (kc BK164.out 0).trans rfl; have hcz6_1 : w5.cell? ⟨gb164, 1, none⟩ = some (.slice A0_1 l0_1.length c0_1) := (kc BK164.out 1).trans rfl; have hfz6_0 := kf BK164.out 0; have hfz6_1 := kf BK164.out 1) | ((with_reducible refine gate_callee (f := 27) rfl ?_); refine goesL_ (some 15) rfl rfl Try.func27 (by kernel_rfl) rfl #[.agg #[.int .i64 a0_0, .slice A0_1 l0_1.length c0_1]] rfl (by (try simp only [List.map_toArray, List.map_cons, List.map_nil]); first | done | rfl | (simp only [List.length_drop, List.length_take]; rfl)) ?_; (with_reducible refine (impl_IsFormula.calls k a0_0 _ _ l0_1 true _ ?side1 ?side2 A2.out).mono ?_); (case side1 => repeat (first | exact (Kd.C_below HR0_1.out HB.out) | (with_reducible refine Kd.C_alloc ?_ _) | (with_reducible refine Kd.C_drewN ?_ _) | (with_reducible refine Kd.C_drew ?_))); (case side2 => exact HC0_1.out); rintro e w7 ⟨rfl, hb⟩; refine ⟨_, rfl, ?_⟩; have n0_ := am (k4 (g := gb164) (o := .cells #[.int .i64 a0_0, .slice A0_1 l0_1.length c0_1] 28 (0, 0)) (by (with_reducible repeat (first | refine k2 ?_ _ | refine k3 ?_ | refine k1 ?_ _)); exact BK164.out) hb); have n1_ := am (b6 (by repeat (first | (with_reducible first | exact HB.out | apply b1 | apply b2 | apply b3 | refine b4 ?_ GE164.out) | exact HB.out)) hb); clear BK164; clear HB; have BK164 := n0_; have HB := n1_; clear n0_ n1_; (try clear hb); (try clear hb2); (try clear hk); (try clear hi); have hcz8_0 : w7.cell? ⟨gb164, 0, none⟩ = some (.int .i64 a0_0) := (kc BK164.out 0).trans rfl; have hcz8_1 : w7.cell? ⟨gb164, 1, none⟩ = some (.slice A0_1 l0_1.length c0_1) := (kc BK164.out 1).trans rfl; have hfz8_0 := kf BK164.out 0; have hfz8_1 := kf BK164.out 1))
   go_ret2
   exact ⟨by first | rfl | (simp [errW_none, errW_some] <;> rfl) | (simp [*, errW_none, errW_some] <;> rfl), by repeat (first | (with_reducible first | exact HB.out | apply b1 | apply b2 | apply b3 | refine b4 ?_ GE164.out) | exact HB.out)⟩
  ·rw [if_neg c4] at H
   have c4b0 : decide (12 < a0_0) = false := decide_eq_false c4
   clear c4
   by_cases c9 : 0 ≤ (l0_1.length : Int)
   ·rw [if_pos c9] at H
    have c9b0 := eq_true c9
    have c9b1 : decide (0 ≤ (l0_1.length : Int)) = true := decide_eq_true c9
    clear c9
    by_cases c10 : ((l0_1.length : Int) : Int).toNat ≤ 35184372088832
    ·rw [if_pos c10] at H
     have c10b0 := eq_true c10
     have c10b1 : decide (((l0_1.length : Int) : Int).toNat ≤ 35184372088832) = true := decide_eq_true c10
     clear c10
     obtain ⟨y166, hy166⟩ : ∃ y_ : List Int, y_ = (List.replicate ((l0_1.length : Int) : Int).toNat 0) := ⟨_, rfl⟩
     replace H : (impl_AssignmentsOf.l0 k y166 (List.replicate ((l0_1.length : Int) : Int).toNat 0) l0_1 (l0_1.length : Int) 0 a0_0 l0_1) = some (r1, r2) := by first | (rw [hy166]; with_reducible exact H) | (have H2_ := (Option.bind_some _ _).symm.trans H; rw [hy166]; with_reducible exact H2_) | (have H2_ := (Option.bind_some _ _).symm.trans H; with_reducible exact H2_) | with_reducible exact H | (rw [hy166]; exact H) | exact H
     have Ny166 := am hy166
     clear hy166
     obtain ⟨y169, hy169⟩ : ∃ y_ : List Int, y_ = (List.replicate ((l0_1.length : Int) : Int).toNat 0) := ⟨_, rfl⟩
     replace H : (impl_AssignmentsOf.l0 k y166 y169 l0_1 (l0_1.length : Int) 0 a0_0 l0_1) = some (r1, r2) := by first | (rw [hy169]; with_reducible exact H) | (have H2_ := (Option.bind_some _ _).symm.trans H; rw [hy169]; with_reducible exact H2_) | (have H2_ := (Option.bind_some _ _).symm.trans H; with_reducible exact H2_) | with_reducible exact H | (rw [hy169]; exact H) | exact H
     have Ny169 := am hy169
     clear hy169
     have H' := am H
     clear H
     go_enter Try.func9, Try.ntmps9
     go_wp2_with (first | ((with_reducible refine gate_dst (N := 1) rfl ?_); (try (refine gate_guard (by rfl) ?_; dsimp only)); refine box_event ?hg (N := 1) ?hd (cs := #[.int .i64 a0_0, .slice A0_1 l0_1.length c0_1]) (t := 28) ?hr ?_; (case hd => rfl); (case hg => rfl); (case hr => first | (go_simp; done) | (go_simp; rfl)); intro gb164 hg w11 hbox hb; have n0_ := am (b6 (by repeat (first | (with_reducible first | exact HB.out | apply b1 | apply b2 | apply b3) | exact HB.out)) hb); have n1_ := am (hbox); have n2_ := am ((by rw [hg]; exact (b5 (by repeat (first | (with_reducible first | exact HB.out | apply b1 | apply b2 | apply b3) | exact HB.out))) : w.heap.size ≤ gb164)); have n3_ := n2_; clear HB; have HB := n0_; have BK164 := n1_; have GW164 := n2_; have GE164 := n3_; clear n0_ n1_ n2_ n3_; clear hb hbox hg; have hcz12_0 : w11.cell? ⟨gb164, 0, none⟩ = some (.int .i64 a0_0) := (kc BK164.out 0).trans rfl; have hcz12_1 : w11.cell? ⟨gb164, 1, none⟩ = some (.slice A0_1 l0_1.length c0_1) := (kc BK164.out 1).trans rfl; have hfz12_0 := kf BK164.out 0; have hfz12_1 := kf BK164.out 1) | ((with_reducible refine gate_callee (f := 27) rfl ?_); refine goesL_ (some 15) rfl rfl Try.func27 (by kernel_rfl) rfl #[.agg #[.int .i64 a0_0, .slice A0_1 l0_1.length c0_1]] rfl (by (try simp only [List.map_toArray, List.map_cons, List.map_nil]); first | done | rfl | (simp only [List.length_drop, List.length_take]; rfl)) ?_; (with_reducible refine (impl_IsFormula.calls k a0_0 _ _ l0_1 true _ ?side1 ?side2 A2.out).mono ?_); (case side1 => repeat (first | exact (Kd.C_below HR0_1.out HB.out) | (with_reducible refine Kd.C_alloc ?_ _) | (with_reducible refine Kd.C_drewN ?_ _) | (with_reducible refine Kd.C_drew ?_))); (case side2 => exact HC0_1.out); rintro e w13 ⟨rfl, hb⟩; refine ⟨_, rfl, ?_⟩; have n0_ := am (k4 (g := gb164) (o := .cells #[.int .i64 a0_0, .slice A0_1 l0_1.length c0_1] 28 (0, 0)) (by (with_reducible repeat (first | refine k2 ?_ _ | refine k3 ?_ | refine k1 ?_ _)); exact BK164.out) hb); have n1_ := am (b6 (by repeat (first | (with_reducible first | exact HB.out | apply b1 | apply b2 | apply b3 | refine b4 ?_ GE164.out) | exact HB.out)) hb); clear BK164; clear HB; have BK164 := n0_; have HB := n1_; clear n0_ n1_; (try clear hb); (try clear hb2); (try clear hk); (try clear hi); have hcz14_0 : w13.cell? ⟨gb164, 0, none⟩ = some (.int .i64 a0_0) := (kc BK164.out 0).trans rfl; have hcz14_1 : w13.cell? ⟨gb164, 1, none⟩ = some (.slice A0_1 l0_1.length c0_1) := (kc BK164.out 1).trans rfl; have hfz14_0 := kf BK164.out 0; have hfz14_1 := kf BK164.out 1) | ((with_reducible refine gate_dst (N := 23) rfl ?_); (try (refine gate_guard (by rfl) ?_; dsimp only)); refine Kd.R_make (Kd.int .u64) _ 48 rfl (N := 23) rfl 51 _ _ rfl (l0_1.length : Int) rfl rfl Try.underlying51 (.int .u64 0) 8 info48 rfl (by decide) (by omega) 0 (ok := fun _ => True) (okp := fun _ => True) rfl (fun _ hk => hk) trivial (of_decide_eq_true (by first | (with_reducible assumption) | assumption)) (Nat.le_trans (Nat.mul_le_mul_right _ (of_decide_eq_true (by first | (with_reducible assumption) | assumption) : (l0_1.length : Int).toNat ≤ 35184372088832)) (by omega)) (Below.refl _ _) (Nat.le_refl _) ?_; intro v167 w15 ho16 hb hg_ hnew_; clear hg_ hnew_; (first | rw [← Ny166.out] at ho16 | (simp only [Int.reduceToNat] at ho16; rw [← Ny166.out] at ho16)); have n0_ := am (Kd.R_lower ho16 (b5 (by repeat (first | (with_reducible first | exact HB.out | apply b1 | apply b2 | apply b3 | refine b4 ?_ GE164.out) | exact HB.out)))); have n1_ := am (k4 (g := gb164) (o := .cells #[.int .i64 a0_0, .slice A0_1 l0_1.length c0_1] 28 (0, 0)) (by (with_reducible repeat (first | refine k2 ?_ _ | refine k3 ?_ | refine k1 ?_ _)); exact BK164.out) hb); have n2_ := am (b6 (by repeat (first | (with_reducible first | exact HB.out | apply b1 | apply b2 | apply b3 | refine b4 ?_ GE164.out) | exact HB.out)) hb); clear BK164; clear HB; have HO168 := n0_; have BK164 := n1_; have HB := n2_; clear n0_ n1_ n2_; clear hb ho16; have hcz17_0 : w15.cell? ⟨gb164, 0, none⟩ = some (.int .i64 a0_0) := (kc BK164.out 0).trans rfl; have hcz17_1 : w15.cell? ⟨gb164, 1, none⟩ = some (.slice A0_1 l0_1.length c0_1) := (kc BK164.out 1).trans rfl; have hfz17_0 := kf BK164.out 0; have hfz17_1 := kf BK164.out 1) | ((with_reducible refine gate_dst (N := 27) rfl ?_); (try (refine gate_guard (by rfl) ?_; dsimp only)); refine Kd.R_make (Kd.int .u64) _ 48 rfl (N := 27) rfl 51 _ _ rfl (l0_1.length : Int) rfl rfl Try.underlying51 (.int .u64 0) 8 info48 rfl (by decide) (by omega) 0 (ok := fun _ => True) (okp := fun _ => True) rfl (fun _ hk => hk) trivial (of_decide_eq_true (by first | (with_reducible assumption) | assumption)) (Nat.le_trans (Nat.mul_le_mul_right _ (of_decide_eq_true (by first | (with_reducible assumption) | assumption) : (l0_1.length : Int).toNat ≤ 35184372088832)) (by omega)) (Below.refl _ _) (Nat.le_refl _) ?_; intro v170 w18 ho19 hb hg_ hnew_; clear hg_ hnew_; (first | rw [← Ny169.out] at ho19 | (simp only [Int.reduceToNat] at ho19; rw [← Ny169.out] at ho19)); have n0_ := am (Kd.R_elder' (by (with_reducible repeat (first | apply Kd.R_alloc | apply Kd.R_drewN | apply Kd.R_drew)); exact HO168.out) (Kd.R_base ho19) hb); have n1_ := am (Kd.R_lower (Kd.R_new' ho19 (Kd.R_lt (by (with_reducible repeat (first | apply Kd.R_alloc | apply Kd.R_drewN | apply Kd.R_drew)); exact HO168.out))) (b5 (by repeat (first | (with_reducible first | exact HB.out | apply b1 | apply b2 | apply b3 | refine b4 ?_ GE164.out) | exact HB.out)))); have n2_ := am (k4 (g := gb164) (o := .cells #[.int .i64 a0_0, .slice A0_1 l0_1.length c0_1] 28 (0, 0)) (by (with_reducible repeat (first | refine k2 ?_ _ | refine k3 ?_ | refine k1 ?_ _)); exact BK164.out) hb); have n3_ := am (b6 (by repeat (first | (with_reducible first | exact HB.out | apply b1 | apply b2 | apply b3 | refine b4 ?_ GE164.out) | exact HB.out)) hb); clear HO168; clear BK164; clear HB; have HO168 := n0_; have HO171 := n1_; have BK164 := n2_; have HB := n3_; clear n0_ n1_ n2_ n3_; clear hb ho19; have hcz20_0 : w18.cell? ⟨gb164, 0, none⟩ = some (.int .i64 a0_0) := (kc BK164.out 0).trans rfl; have hcz20_1 : w18.cell? ⟨gb164, 1, none⟩ = some (.slice A0_1 l0_1.length c0_1) := (kc BK164.out 1).trans rfl; have hfz20_0 := kf BK164.out 0; have hfz20_1 := kf BK164.out 1))
     go_loopg [31] k (fun kq v31 w' => ∃ (x4_1 : List Int) (x5_1 : List Int) (x31_1 : Int), v31 = .int .i64 x31_1 ∧ Aside0 (impl_AssignmentsOf.l0 kq x4_1 x5_1 l0_1 (l0_1.length : Int) x31_1 a0_0 l0_1 = some (r1, r2)) ∧ Aside0 (kq ≤ k) ∧ Aside0 (Kd.R (Kd.int .u64) 48 w' w.heap.size (fun k_ => some k_ ≠ (v170 : Value).ownBlock) v167 x4_1) ∧ Aside0 (Kd.R (Kd.int .u64) 48 w' w.heap.size (fun k_ => some k_ ≠ (v167 : Value).ownBlock) v170 x5_1) ∧ Aside0 (w'.heap[gb164]? = some (.cells #[.int .i64 a0_0, (.slice A0_1 l0_1.length c0_1)] 28 (0, 0))) ∧ Aside0 (Below w.heap.size w w'))
     case atStart => exact ⟨(y166), (y169), (0), (by first | rfl | (simp; done) | (simp [*]; done)), H', ⟨Nat.le_refl _⟩, ⟨by (with_reducible repeat (first | apply Kd.R_alloc | apply Kd.R_drewN | apply Kd.R_drew)); exact Kd.R_mono HO168.out (fun _ hk => hk.2)⟩, ⟨by (with_reducible repeat (first | apply Kd.R_alloc | apply Kd.R_drewN | apply Kd.R_drew)); exact Kd.R_mono HO171.out (fun _ hk => hk.2)⟩, ⟨by (with_reducible repeat (first | refine k2 ?_ _ | refine k3 ?_ | refine k1 ?_ _)); exact BK164.out⟩, ⟨by repeat (first | (with_reducible first | exact HB.out | apply b1 | apply b2 | apply b3 | refine b4 ?_ GE164.out) | exact HB.out)⟩⟩
     case round =>
      clear H'
      try clear c1
      try clear c2
      try clear p2
      try clear c3
      try clear c4
      try clear c4b0
      try clear c9
      try clear c9b0
      try clear c9b1
      try clear c10
      try clear c10b0
      try clear c10b1
      try clear hcz12_0
      try clear hcz12_1
      try clear hcz14_0
      try clear hcz14_1
      try clear hcz17_0
      try clear hcz17_1
      try clear hcz20_0
      try clear hcz20_1
      try clear hcz6_0
      try clear hcz6_1
      try clear hcz8_0
      try clear hcz8_1
      try clear hfz12_0
      try clear hfz12_1
      try clear hfz14_0
      try clear hfz14_1
      try clear hfz17_0
      try clear hfz17_1
      try clear hfz20_0
      try clear hfz20_1
      try clear hfz6_0
      try clear hfz6_1
      try clear hfz8_0
      try clear hfz8_1
      obtain ⟨x4_1, x5_1, x31_1, rfl, HA, HK1, HO_4, HO_5, BK164, HB⟩ := hrel
      cases gk with
      | zero => exact absurd HA.out (by simp [impl_AssignmentsOf.l0])
      | succ k1 =>
       have H := HA.out
       clear HA
       simp only [impl_AssignmentsOf.l0] at H
       by_cases c21 : x31_1 < (l0_1.length : Int)
       ·rw [if_pos c21] at H
        have c21b0 : decide (x31_1 < (l0_1.length : Int)) = true := decide_eq_true c21
        clear c21
        by_cases c22 : 0 ≤ x31_1
        ·rw [if_pos c22] at H
         have c22b0 : decide (0 ≤ x31_1) = true := decide_eq_true c22
         clear c22
         by_cases c23 : x31_1 < (l0_1.length : Int)
         ·rw [if_pos c23] at H
          have c23b0 : decide (x31_1 < (l0_1.length : Int)) = true := decide_eq_true c23
          clear c23
          have H' := am H
          clear H
          have p172 : 0 ≤ (x31_1 : Int) := of_decide_eq_true (by first | (with_reducible assumption) | assumption)
          have q172 : x31_1 < (l0_1.length : Int) := of_decide_eq_true (by first | (with_reducible assumption) | assumption)
          obtain ⟨ad172, A172_0, c172_0, e172, hx172_0, hl172_0, hi172_0⟩ := at_L1 HR0_1.out x31_1 p172 q172
          cases e172
          replace hx172_0 := pc HB.out hx172_0
          have HR172_0 := am hi172_0
          have HC172_0 := am hl172_0
          clear hi172_0 hl172_0
          replace p172 := eq_true p172
          replace q172 := eq_true q172
          go_wp2
          go_loopg [38] k1 (fun kq v38 w' => ∃ (x4_2 : List Int) (x5_2 : List Int) (x38_2 : Int), v38 = .int .i64 x38_2 ∧ Aside0 (impl_AssignmentsOf.l1 kq x4_2 x5_2 x31_1 l0_1 (l0_1.length : Int) x31_1 (rd_L1 l0_1 x31_1) ((rd_L1 l0_1 x31_1).length : Int) x38_2 a0_0 l0_1 = some (r1, r2)) ∧ Aside0 (kq ≤ k1) ∧ Aside0 (Kd.R (Kd.int .u64) 48 w' w.heap.size (fun k_ => some k_ ≠ (v170 : Value).ownBlock) v167 x4_2) ∧ Aside0 (Kd.R (Kd.int .u64) 48 w' w.heap.size (fun k_ => some k_ ≠ (v167 : Value).ownBlock) v170 x5_2) ∧ Aside0 (w'.heap[gb164]? = some (.cells #[.int .i64 a0_0, (.slice (some ad172) l0_1.length c0_1)] 28 (0, 0))) ∧ Aside0 (Below w.heap.size w w'))
          case atStart => exact ⟨(x4_1), (x5_1), (0), (by first | rfl | (simp; done) | (simp [*]; done)), H', ⟨Nat.le_refl _⟩, ⟨by (with_reducible repeat (first | apply Kd.R_alloc | apply Kd.R_drewN | apply Kd.R_drew)); exact HO_4.out⟩, ⟨by (with_reducible repeat (first | apply Kd.R_alloc | apply Kd.R_drewN | apply Kd.R_drew)); exact HO_5.out⟩, ⟨by (with_reducible repeat (first | refine k2 ?_ _ | refine k3 ?_ | refine k1 ?_ _)); exact BK164.out⟩, ⟨by repeat (first | (with_reducible first | exact HB.out | apply b1 | apply b2 | apply b3 | refine b4 ?_ GE164.out) | exact HB.out)⟩⟩
          case round =>
           clear H'
           try clear c1
           try clear p1
           try clear q1
           try clear hx1
           try clear c2
           try clear p2
           try clear c3
           try clear c4
           try clear c4b0
           try clear c9
           try clear c9b0
           try clear c9b1
           try clear c10
           try clear c10b0
           try clear c10b1
           try clear c17
           try clear p17
           try clear q17
           try clear hx17
           try clear c21
           try clear c21b0
           try clear c22
           try clear c22b0
           try clear c23
           try clear c23b0
           try clear hcz12_0
           try clear hcz12_1
           try clear hcz14_0
           try clear hcz14_1
           try clear hcz17_0
           try clear hcz17_1
           try clear hcz20_0
           try clear hcz20_1
           try clear hcz6_0
           try clear hcz6_1
           try clear hcz8_0
           try clear hcz8_1
           try clear hfz12_0
           try clear hfz12_1
           try clear hfz14_0
           try clear hfz14_1
           try clear hfz17_0
           try clear hfz17_1
           try clear hfz20_0
           try clear hfz20_1
           try clear hfz6_0
           try clear hfz6_1
           try clear hfz8_0
           try clear hfz8_1
           try clear hx172_0
           try clear p172
           try clear p2
           try clear q172
           obtain ⟨x4_2, x5_2, x38_2, rfl, HA, HK2, HO_4, HO_5, BK164, HB⟩ := hrel
           cases gk with
           | zero => exact absurd HA.out (by simp [impl_AssignmentsOf.l1])
           | succ k2 =>
            have H := HA.out
            clear HA
            simp only [impl_AssignmentsOf.l1] at H
            by_cases c24 : x38_2 < ((rd_L1 l0_1 x31_1).length : Int)
            ·rw [if_pos c24] at H
             have c24b0 : decide (x38_2 < ((rd_L1 l0_1 x31_1).length : Int)) = true := decide_eq_true c24
             clear c24
             by_cases c25 : 0 ≤ x38_2
             ·rw [if_pos c25] at H
              have c25b0 : decide (0 ≤ x38_2) = true := decide_eq_true c25
              clear c25
              by_cases c26 : x38_2 < ((rd_L1 l0_1 x31_1).length : Int)
              ·rw [if_pos c26] at H
               have c26b0 : decide (x38_2 < ((rd_L1 l0_1 x31_1).length : Int)) = true := decide_eq_true c26
               clear c26
               by_cases c27 : (rd (rd_L1 l0_1 x31_1) x38_2) > 0
               ·rw [if_pos c27] at H
                have c27b0 : decide (0 < (rd (rd_L1 l0_1 x31_1) x38_2)) = true := decide_eq_true c27
                clear c27
                by_cases c28 : 0 ≤ x31_1
                ·rw [if_pos c28] at H
                 have c28b0 : decide (0 ≤ x31_1) = true := decide_eq_true c28
                 clear c28
                 by_cases c29 : x31_1 < (x4_2.length : Int)
                 ·rw [if_pos c29] at H
                  have c29b0 : decide (x31_1 < (x4_2.length : Int)) = true := decide_eq_true c29
                  clear c29
                  obtain ⟨ji30, hji30⟩ : ∃ j_ : Int, (IntKind.u64.wrap (wrap64 ((rd (rd_L1 l0_1 x31_1) x38_2) - 1))) = j_ := ⟨_, rfl⟩
                  replace H : (if 0 ≤ (ji30) then (impl_AssignmentsOf.l1 k2 (x4_2.set (x31_1 : Int).toNat (Go.bits .or .u64 (rd x4_2 x31_1) (shl .u64 1 (ji30)))) x5_2 x31_1 l0_1 (l0_1.length : Int) x31_1 (rd_L1 l0_1 x31_1) ((rd_L1 l0_1 x31_1).length : Int) (wrap64 (x38_2 + 1)) a0_0 l0_1) else (none)) = some (r1, r2) := by first | (rw [hji30] at H; exact H) | (simp only [hji30] at H ⊢; exact H)
                  by_cases c31 : 0 ≤ (ji30)
                  ·rw [if_pos c31] at H
                   have c31b0 := eq_true c31
                   have c31b1 : decide (0 ≤ (ji30)) = true := decide_eq_true c31
                   clear c31
                   obtain ⟨ji32, hji32⟩ : ∃ j_ : Int, (shl .u64 1 (ji30)) = j_ := ⟨_, rfl⟩
                   replace H : (impl_AssignmentsOf.l1 k2 (x4_2.set (x31_1 : Int).toNat (Go.bits .or .u64 (rd x4_2 x31_1) (ji32))) x5_2 x31_1 l0_1 (l0_1.length : Int) x31_1 (rd_L1 l0_1 x31_1) ((rd_L1 l0_1 x31_1).length : Int) (wrap64 (x38_2 + 1)) a0_0 l0_1) = some (r1, r2) := by first | (rw [hji32] at H; exact H) | (simp only [hji32] at H ⊢; exact H)
                   have hji32_ : (IntKind.u64.wrap (1 * 2 ^ min (ji30).toNat 64)) = ji32 := hji32
                   have hji32z : (ji30) ≤ 64 → (IntKind.u64.wrap (1 * 2 ^ (ji30).toNat)) = ji32 := shl_small hji32
                   have hji32u : (IntKind.u64.wrap (2 ^ min (ji30).toNat 64)) = ji32 := by have h_ := hji32_; rw [Int.one_mul] at h_; exact h_
                   have hji32v : (ji30) ≤ 64 → (IntKind.u64.wrap (2 ^ (ji30).toNat)) = ji32 := fun hle_ => by have h_ := hji32z hle_; rw [Int.one_mul] at h_; exact h_
                   obtain ⟨y175, hy175⟩ : ∃ y_ : List Int, y_ = (x4_2.set (x31_1 : Int).toNat (Go.bits .or .u64 (rd x4_2 x31_1) (ji32))) := ⟨_, rfl⟩
                   replace H : (impl_AssignmentsOf.l1 k2 y175 x5_2 x31_1 l0_1 (l0_1.length : Int) x31_1 (rd_L1 l0_1 x31_1) ((rd_L1 l0_1 x31_1).length : Int) (wrap64 (x38_2 + 1)) a0_0 l0_1) = some (r1, r2) := by first | (rw [hy175]; with_reducible exact H) | (have H2_ := (Option.bind_some _ _).symm.trans H; rw [hy175]; with_reducible exact H2_) | (have H2_ := (Option.bind_some _ _).symm.trans H; with_reducible exact H2_) | with_reducible exact H | (rw [hy175]; exact H) | exact H
                   have Ny175 := am hy175
                   clear hy175
                   have H' := am H
                   clear H
                   have p173 : 0 ≤ (x38_2 : Int) := of_decide_eq_true (by first | (with_reducible assumption) | assumption)
                   have q173 : x38_2 < ((rd_L1 l0_1 x31_1).length : Int) := of_decide_eq_true (by first | (with_reducible assumption) | assumption)
                   obtain ⟨ad173, e173, hx173_0⟩ := Kd.at_int HR172_0.out x38_2 p173 q173
                   cases e173
                   replace hx173_0 := pc HB.out hx173_0
                   replace p173 := eq_true p173
                   replace q173 := eq_true q173
                   obtain ⟨Ao34, co34, eo34⟩ := Kd.R_slice HO_4.out
                   subst eo34
                   have p174 : 0 ≤ (x31_1 : Int) := of_decide_eq_true (by first | (with_reducible assumption) | assumption)
                   have q174 : x31_1 < (x4_2.length : Int) := of_decide_eq_true (by first | (with_reducible assumption) | assumption)
                   obtain ⟨ad174, e174, hx174_0⟩ := Kd.at_int (Kd.R_reads' HO_4.out).2.2 x31_1 p174 q174
                   cases e174
                   replace p174 := eq_true p174
                   replace q174 := eq_true q174
                   have p33 : 0 ≤ (x31_1 : Int) := of_decide_eq_true (by first | (with_reducible assumption) | assumption)
                   have q33 : (x31_1 : Int) < ((x4_2.length : Int) : Int) := of_decide_eq_true (by first | (with_reducible assumption) | assumption)
                   obtain ⟨go33, co33, eo33, gb33, gl33, cl33, HG33⟩ := Kd.R_form HO_4.out (by omega)
                   (first | cases eo33 | (injection eo33 with ea_ en_ ec_; (first | subst ea_ | (injection ea_ with ea_; subst ea_)); subst ec_; clear en_))
                   have GB33 := am gb33
                   have GG33 := am HG33
                   clear gb33 gl33 HG33
                   (first | simp only [add_plain] at hx174_0 | skip)
                   obtain ⟨hx33_0, hf33_0⟩ := Kd.R_celln 0 HO_4.out (x31_1 : Int) p33 q33
                   replace p33 := eq_true p33
                   replace q33 := eq_true q33
                   have HP35 := Kd.R_putg HO_4.out (x31_1 : Int) (Go.bits .or .u64 (rd x4_2 x31_1) (ji32))
                   go_wp2_with (first | ((with_reducible refine gate_store (t := 48) (p := 53) rfl ?_); refine store_event (t := 48) (p := 53) (v := ?vo_w36) (w1 := (wr.setCell ⟨go33, (x31_1 : Int).toNat, none⟩ (.int .u64 (Go.bits .or .u64 (rd x4_2 x31_1) (ji32))))) ?hg ?ho ?hn ?hr ?_; (case ho => rfl); (case hg => rfl); (case hn => rfl); (case hr => first | (go_simp; done) | (go_simp; rfl)); intro w36 hw; have hg : wr.grownBy w36 (some go33) := (by rw [hw]; exact HP35.2); have hp_ : Kd.R (Kd.int .u64) 48 w36 w.heap.size (fun k_ => some k_ ≠ (v170 : Value).ownBlock) (.slice (some ⟨go33, 0, none⟩) x4_2.length co34) y175 := (by rw [hw, Ny175.out]; exact HP35.1); clear HP35; have n0_ := am (hp_); have n1_ := am (Kd.R_after (v := (.slice (some ⟨go33, 0, none⟩) x4_2.length co34)) (v1 := (.slice (some ⟨go33, 0, none⟩) x4_2.length co34)) (ok := (fun _ => True)) (by (with_reducible repeat (first | apply Kd.R_alloc | apply Kd.R_drewN | apply Kd.R_drew)); exact Kd.R_mono HO_5.out (fun _ hk => ⟨trivial, hk⟩)) hg (.inl rfl)); have n2_ := am (blk_grown (g := gb164) (o := .cells #[.int .i64 a0_0, .slice (some ad172) l0_1.length c0_1] 28 (0, 0)) (by (with_reducible repeat (first | refine k2 ?_ _ | refine k3 ?_ | refine k1 ?_ _)); exact BK164.out) hg (Kd.R_ne HO_4.out BK164.out (by decide))); have n3_ := am ((by rw [hw]; exact b4 (HB.out) GB33.out : Below w.heap.size w w36)); clear HO_4; clear HO_5; clear BK164; clear HB; have HO_4 := n0_; have HO_5 := n1_; have BK164 := n2_; have HB := n3_; clear n0_ n1_ n2_ n3_; clear hg hw hp_))
                   go_roundg k2
                   case measure => have := HK1.out; have := HK2.out; omega
                   case rel => exact ⟨(y175), (x5_2), (wrap64 (x38_2 + 1)), (by first | rfl | (simp; done) | (simp [*]; done)), H', ⟨by have := HK1.out; have := HK2.out; omega⟩, ⟨by (with_reducible repeat (first | apply Kd.R_alloc | apply Kd.R_drewN | apply Kd.R_drew)); exact HO_4.out⟩, ⟨by (with_reducible repeat (first | apply Kd.R_alloc | apply Kd.R_drewN | apply Kd.R_drew)); exact Kd.R_mono HO_5.out (fun _ hk => hk.2)⟩, ⟨by (with_reducible repeat (first | refine k2 ?_ _ | refine k3 ?_ | refine k1 ?_ _)); exact BK164.out⟩, ⟨by repeat (first | (with_reducible first | exact HB.out | apply b1 | apply b2 | apply b3 | refine b4 ?_ GE164.out) | exact HB.out)⟩⟩
                  ·rw [if_neg c31] at H
                   exact absurd H (by simp)
                 ·rw [if_neg c29] at H
                  exact absurd H (by simp)
                ·rw [if_neg c28] at H
                 exact absurd H (by simp)
               ·rw [if_neg c27] at H
                have c27b0 : decide (0 < (rd (rd_L1 l0_1 x31_1) x38_2)) = false := decide_eq_false c27
                clear c27
                by_cases c37 : 0 ≤ x31_1
                ·rw [if_pos c37] at H
                 have c37b0 : decide (0 ≤ x31_1) = true := decide_eq_true c37
                 clear c37
                 by_cases c38 : x31_1 < (x5_2.length : Int)
                 ·rw [if_pos c38] at H
                  have c38b0 : decide (x31_1 < (x5_2.length : Int)) = true := decide_eq_true c38
                  clear c38
                  obtain ⟨ji39, hji39⟩ : ∃ j_ : Int, (IntKind.u64.wrap (wrap64 ((wrap64 (-(rd (rd_L1 l0_1 x31_1) x38_2))) - 1))) = j_ := ⟨_, rfl⟩
                  replace H : (if 0 ≤ (ji39) then (impl_AssignmentsOf.l1 k2 x4_2 (x5_2.set (x31_1 : Int).toNat (Go.bits .or .u64 (rd x5_2 x31_1) (shl .u64 1 (ji39)))) x31_1 l0_1 (l0_1.length : Int) x31_1 (rd_L1 l0_1 x31_1) ((rd_L1 l0_1 x31_1).length : Int) (wrap64 (x38_2 + 1)) a0_0 l0_1) else (none)) = some (r1, r2) := by first | (rw [hji39] at H; exact H) | (simp only [hji39] at H ⊢; exact H)
                  by_cases c40 : 0 ≤ (ji39)
                  ·rw [if_pos c40] at H
                   have c40b0 := eq_true c40
                   have c40b1 : decide (0 ≤ (ji39)) = true := decide_eq_true c40
                   clear c40
                   obtain ⟨ji41, hji41⟩ : ∃ j_ : Int, (shl .u64 1 (ji39)) = j_ := ⟨_, rfl⟩
                   replace H : (impl_AssignmentsOf.l1 k2 x4_2 (x5_2.set (x31_1 : Int).toNat (Go.bits .or .u64 (rd x5_2 x31_1) (ji41))) x31_1 l0_1 (l0_1.length : Int) x31_1 (rd_L1 l0_1 x31_1) ((rd_L1 l0_1 x31_1).length : Int) (wrap64 (x38_2 + 1)) a0_0 l0_1) = some (r1, r2) := by first | (rw [hji41] at H; exact H) | (simp only [hji41] at H ⊢; exact H)
                   have hji41_ : (IntKind.u64.wrap (1 * 2 ^ min (ji39).toNat 64)) = ji41 := hji41
                   have hji41z : (ji39) ≤ 64 → (IntKind.u64.wrap (1 * 2 ^ (ji39).toNat)) = ji41 := shl_small hji41
                   have hji41u : (IntKind.u64.wrap (2 ^ min (ji39).toNat 64)) = ji41 := by have h_ := hji41_; rw [Int.one_mul] at h_; exact h_
                   have hji41v : (ji39) ≤ 64 → (IntKind.u64.wrap (2 ^ (ji39).toNat)) = ji41 := fun hle_ => by have h_ := hji41z hle_; rw [Int.one_mul] at h_; exact h_
                   obtain ⟨y177, hy177⟩ : ∃ y_ : List Int, y_ = (x5_2.set (x31_1 : Int).toNat (Go.bits .or .u64 (rd x5_2 x31_1) (ji41))) := ⟨_, rfl⟩
                   replace H : (impl_AssignmentsOf.l1 k2 x4_2 y177 x31_1 l0_1 (l0_1.length : Int) x31_1 (rd_L1 l0_1 x31_1) ((rd_L1 l0_1 x31_1).length : Int) (wrap64 (x38_2 + 1)) a0_0 l0_1) = some (r1, r2) := by first | (rw [hy177]; with_reducible exact H) | (have H2_ := (Option.bind_some _ _).symm.trans H; rw [hy177]; with_reducible exact H2_) | (have H2_ := (Option.bind_some _ _).symm.trans H; with_reducible exact H2_) | with_reducible exact H | (rw [hy177]; exact H) | exact H
                   have Ny177 := am hy177
                   clear hy177
                   have H' := am H
                   clear H
                   have p173 : 0 ≤ (x38_2 : Int) := of_decide_eq_true (by first | (with_reducible assumption) | assumption)
                   have q173 : x38_2 < ((rd_L1 l0_1 x31_1).length : Int) := of_decide_eq_true (by first | (with_reducible assumption) | assumption)
                   obtain ⟨ad173, e173, hx173_0⟩ := Kd.at_int HR172_0.out x38_2 p173 q173
                   cases e173
                   replace hx173_0 := pc HB.out hx173_0
                   replace p173 := eq_true p173
                   replace q173 := eq_true q173
                   obtain ⟨Ao43, co43, eo43⟩ := Kd.R_slice HO_5.out
                   subst eo43
                   have p176 : 0 ≤ (x31_1 : Int) := of_decide_eq_true (by first | (with_reducible assumption) | assumption)
                   have q176 : x31_1 < (x5_2.length : Int) := of_decide_eq_true (by first | (with_reducible assumption) | assumption)
                   obtain ⟨ad176, e176, hx176_0⟩ := Kd.at_int (Kd.R_reads' HO_5.out).2.2 x31_1 p176 q176
                   cases e176
                   replace p176 := eq_true p176
                   replace q176 := eq_true q176
                   have p42 : 0 ≤ (x31_1 : Int) := of_decide_eq_true (by first | (with_reducible assumption) | assumption)
                   have q42 : (x31_1 : Int) < ((x5_2.length : Int) : Int) := of_decide_eq_true (by first | (with_reducible assumption) | assumption)
                   obtain ⟨go42, co42, eo42, gb42, gl42, cl42, HG42⟩ := Kd.R_form HO_5.out (by omega)
                   (first | cases eo42 | (injection eo42 with ea_ en_ ec_; (first | subst ea_ | (injection ea_ with ea_; subst ea_)); subst ec_; clear en_))
                   have GB42 := am gb42
                   have GG42 := am HG42
                   clear gb42 gl42 HG42
                   (first | simp only [add_plain] at hx176_0 | skip)
                   obtain ⟨hx42_0, hf42_0⟩ := Kd.R_celln 0 HO_5.out (x31_1 : Int) p42 q42
                   replace p42 := eq_true p42
                   replace q42 := eq_true q42
                   have HP44 := Kd.R_putg HO_5.out (x31_1 : Int) (Go.bits .or .u64 (rd x5_2 x31_1) (ji41))
                   go_wp2_with (first | ((with_reducible refine gate_store (t := 48) (p := 64) rfl ?_); refine store_event (t := 48) (p := 64) (v := ?vo_w45) (w1 := (wr.setCell ⟨go42, (x31_1 : Int).toNat, none⟩ (.int .u64 (Go.bits .or .u64 (rd x5_2 x31_1) (ji41))))) ?hg ?ho ?hn ?hr ?_; (case ho => rfl); (case hg => rfl); (case hn => rfl); (case hr => first | (go_simp; done) | (go_simp; rfl)); intro w45 hw; have hg : wr.grownBy w45 (some go42) := (by rw [hw]; exact HP44.2); have hp_ : Kd.R (Kd.int .u64) 48 w45 w.heap.size (fun k_ => some k_ ≠ (v167 : Value).ownBlock) (.slice (some ⟨go42, 0, none⟩) x5_2.length co43) y177 := (by rw [hw, Ny177.out]; exact HP44.1); clear HP44; have n0_ := am (Kd.R_after (v := (.slice (some ⟨go42, 0, none⟩) x5_2.length co43)) (v1 := (.slice (some ⟨go42, 0, none⟩) x5_2.length co43)) (ok := (fun _ => True)) (by (with_reducible repeat (first | apply Kd.R_alloc | apply Kd.R_drewN | apply Kd.R_drew)); exact Kd.R_mono HO_4.out (fun _ hk => ⟨trivial, hk⟩)) hg (.inl rfl)); have n1_ := am (hp_); have n2_ := am (blk_grown (g := gb164) (o := .cells #[.int .i64 a0_0, .slice (some ad172) l0_1.length c0_1] 28 (0, 0)) (by (with_reducible repeat (first | refine k2 ?_ _ | refine k3 ?_ | refine k1 ?_ _)); exact BK164.out) hg (Kd.R_ne HO_5.out BK164.out (by decide))); have n3_ := am ((by rw [hw]; exact b4 (HB.out) GB42.out : Below w.heap.size w w45)); clear HO_4; clear HO_5; clear BK164; clear HB; have HO_4 := n0_; have HO_5 := n1_; have BK164 := n2_; have HB := n3_; clear n0_ n1_ n2_ n3_; clear hg hw hp_))
                   go_roundg k2
                   case measure => have := HK1.out; have := HK2.out; omega
                   case rel => exact ⟨(x4_2), (y177), (wrap64 (x38_2 + 1)), (by first | rfl | (simp; done) | (simp [*]; done)), H', ⟨by have := HK1.out; have := HK2.out; omega⟩, ⟨by (with_reducible repeat (first | apply Kd.R_alloc | apply Kd.R_drewN | apply Kd.R_drew)); exact Kd.R_mono HO_4.out (fun _ hk => hk.2)⟩, ⟨by (with_reducible repeat (first | apply Kd.R_alloc | apply Kd.R_drewN | apply Kd.R_drew)); exact HO_5.out⟩, ⟨by (with_reducible repeat (first | refine k2 ?_ _ | refine k3 ?_ | refine k1 ?_ _)); exact BK164.out⟩, ⟨by repeat (first | (with_reducible first | exact HB.out | apply b1 | apply b2 | apply b3 | refine b4 ?_ GE164.out) | exact HB.out)⟩⟩
                  ·rw [if_neg c40] at H
                   exact absurd H (by simp)
                 ·rw [if_neg c38] at H
                  exact absurd H (by simp)
                ·rw [if_neg c37] at H
                 exact absurd H (by simp)
              ·rw [if_neg c26] at H
               exact absurd H (by simp)
             ·rw [if_neg c25] at H
              exact absurd H (by simp)
            ·rw [if_neg c24] at H
             have c24b0 : decide (x38_2 < ((rd_L1 l0_1 x31_1).length : Int)) = false := decide_eq_false c24
             clear c24
             have H' := am H
             clear H
             go_wp2
             go_roundg k2
             case measure => have := HK1.out; have := HK2.out; omega
             case rel => exact ⟨(x4_2), (x5_2), (wrap64 (x31_1 + 1)), (by first | rfl | (simp; done) | (simp [*]; done)), H', ⟨by have := HK1.out; have := HK2.out; omega⟩, ⟨by (with_reducible repeat (first | apply Kd.R_alloc | apply Kd.R_drewN | apply Kd.R_drew)); exact HO_4.out⟩, ⟨by (with_reducible repeat (first | apply Kd.R_alloc | apply Kd.R_drewN | apply Kd.R_drew)); exact HO_5.out⟩, ⟨by (with_reducible repeat (first | refine k2 ?_ _ | refine k3 ?_ | refine k1 ?_ _)); exact BK164.out⟩, ⟨by repeat (first | (with_reducible first | exact HB.out | apply b1 | apply b2 | apply b3 | refine b4 ?_ GE164.out) | exact HB.out)⟩⟩
         ·rw [if_neg c23] at H
          exact absurd H (by simp)
        ·rw [if_neg c22] at H
         exact absurd H (by simp)
       ·rw [if_neg c21] at H
        have c21b0 : decide (x31_1 < (l0_1.length : Int)) = false := decide_eq_false c21
        clear c21
        obtain ⟨ji46, hji46⟩ : ∃ j_ : Int, (IntKind.u64.wrap (a0_0)) = j_ := ⟨_, rfl⟩
        replace H : (if 0 ≤ (ji46) then (impl_AssignmentsOf.l2 k1 x4_1 x5_1 0 (shl .u64 1 (ji46)) 0) else (none)) = some (r1, r2) := by first | (rw [hji46] at H; exact H) | (simp only [hji46] at H ⊢; exact H)
        by_cases c47 : 0 ≤ (ji46)
        ·rw [if_pos c47] at H
         have c47b0 := eq_true c47
         have c47b1 : decide (0 ≤ (ji46)) = true := decide_eq_true c47
         clear c47
         obtain ⟨ji48, hji48⟩ : ∃ j_ : Int, (shl .u64 1 (ji46)) = j_ := ⟨_, rfl⟩
         replace H : (impl_AssignmentsOf.l2 k1 x4_1 x5_1 0 ji48 0) = some (r1, r2) := by first | (rw [hji48] at H; exact H) | (simp only [hji48] at H ⊢; exact H)
         have hji48_ : (IntKind.u64.wrap (1 * 2 ^ min (ji46).toNat 64)) = ji48 := hji48
         have hji48z : (ji46) ≤ 64 → (IntKind.u64.wrap (1 * 2 ^ (ji46).toNat)) = ji48 := shl_small hji48
         have hji48u : (IntKind.u64.wrap (2 ^ min (ji46).toNat 64)) = ji48 := by have h_ := hji48_; rw [Int.one_mul] at h_; exact h_
         have hji48v : (ji46) ≤ 64 → (IntKind.u64.wrap (2 ^ (ji46).toNat)) = ji48 := fun hle_ => by have h_ := hji48z hle_; rw [Int.one_mul] at h_; exact h_
         have H' := am H
         clear H
         have hcz49_0 : wr.cell? ⟨gb164, 0, none⟩ = some (.int .i64 a0_0) := (kc BK164.out 0).trans rfl
         have hcz49_1 : wr.cell? ⟨gb164, 1, none⟩ = some (.slice A0_1 l0_1.length c0_1) := (kc BK164.out 1).trans rfl
         have hfz49_0 := kf BK164.out 0
         have hfz49_1 := kf BK164.out 1
         go_wp2
         go_loopg [10, 71] k1 (fun kq v10 v71 w' => ∃ (x10_2 : Int) (x71_2 : Int), v10 = .int .i64 x10_2 ∧ v71 = .int .u64 x71_2 ∧ Aside0 (impl_AssignmentsOf.l2 kq x4_1 x5_1 x10_2 ji48 x71_2 = some (r1, r2)) ∧ Aside0 (kq ≤ k1) ∧ Aside0 (Kd.R (Kd.int .u64) 48 w' w.heap.size (fun k_ => some k_ ≠ (v170 : Value).ownBlock) v167 x4_1) ∧ Aside0 (Kd.R (Kd.int .u64) 48 w' w.heap.size (fun k_ => some k_ ≠ (v167 : Value).ownBlock) v170 x5_1) ∧ Aside0 (w'.heap[gb164]? = some (.cells #[.int .i64 a0_0, (.slice A0_1 l0_1.length c0_1)] 28 (0, 0))) ∧ Aside0 (Below w.heap.size w w'))
         case atStart => exact ⟨(0), (0), (by first | rfl | (simp; done) | (simp [*]; done)), (by first | rfl | (simp; done) | (simp [*]; done)), H', ⟨Nat.le_refl _⟩, ⟨by (with_reducible repeat (first | apply Kd.R_alloc | apply Kd.R_drewN | apply Kd.R_drew)); exact HO_4.out⟩, ⟨by (with_reducible repeat (first | apply Kd.R_alloc | apply Kd.R_drewN | apply Kd.R_drew)); exact HO_5.out⟩, ⟨by (with_reducible repeat (first | refine k2 ?_ _ | refine k3 ?_ | refine k1 ?_ _)); exact BK164.out⟩, ⟨by repeat (first | (with_reducible first | exact HB.out | apply b1 | apply b2 | apply b3 | refine b4 ?_ GE164.out) | exact HB.out)⟩⟩
         case round =>
          clear H'
          try clear c1
          try clear p1
          try clear q1
          try clear hx1
          try clear c2
          try clear p2
          try clear c3
          try clear p3
          try clear q3
          try clear hx3
          try clear hf3
          try clear c4
          try clear c4b0
          try clear p4
          try clear q4
          try clear hx4
          try clear hf4
          try clear p6
          try clear c9
          try clear c9b0
          try clear c9b1
          try clear c10
          try clear c10b0
          try clear c10b1
          try clear c17
          try clear p17
          try clear q17
          try clear hx17
          try clear c21
          try clear c21b0
          try clear c22
          try clear c22b0
          try clear c23
          try clear c23b0
          try clear c24
          try clear c24b0
          try clear c25
          try clear c25b0
          try clear c26
          try clear c26b0
          try clear c27
          try clear c27b0
          try clear c28
          try clear c28b0
          try clear c29
          try clear c29b0
          try clear c31
          try clear c31b0
          try clear c31b1
          try clear p33
          try clear q33
          try clear hx33
          try clear hf33
          try clear c37
          try clear c37b0
          try clear c38
          try clear c38b0
          try clear c40
          try clear c40b0
          try clear c40b1
          try clear p42
          try clear q42
          try clear hx42
          try clear hf42
          try clear c47
          try clear c47b0
          try clear c47b1
          try clear hcz12_0
          try clear hcz12_1
          try clear hcz14_0
          try clear hcz14_1
          try clear hcz17_0
          try clear hcz17_1
          try clear hcz20_0
          try clear hcz20_1
          try clear hcz49_0
          try clear hcz49_1
          try clear hcz6_0
          try clear hcz6_1
          try clear hcz8_0
          try clear hcz8_1
          try clear hfz12_0
          try clear hfz12_1
          try clear hfz14_0
          try clear hfz14_1
          try clear hfz17_0
          try clear hfz17_1
          try clear hfz20_0
          try clear hfz20_1
          try clear hfz49_0
          try clear hfz49_1
          try clear hfz6_0
          try clear hfz6_1
          try clear hfz8_0
          try clear hfz8_1
          try clear hx172_0
          try clear hx173_0
          try clear hx174_0
          try clear hx176_0
          try clear hx33_0
          try clear hx42_0
          try clear p1
          try clear p17
          try clear p172
          try clear p173
          try clear p174
          try clear p176
          try clear p2
          try clear p33
          try clear p42
          try clear q1
          try clear q17
          try clear q172
          try clear q173
          try clear q174
          try clear q176
          try clear q33
          try clear q42
          obtain ⟨x10_2, x71_2, rfl, rfl, HA, HK2, HO_4, HO_5, BK164, HB⟩ := hrel
          cases gk with
          | zero => exact absurd HA.out (by simp [impl_AssignmentsOf.l2])
          | succ k2 =>
           have H := HA.out
           clear HA
           simp only [impl_AssignmentsOf.l2] at H
           by_cases c50 : x71_2 < ji48
           ·rw [if_pos c50] at H
            have c50b0 : decide (x71_2 < ji48) = true := decide_eq_true c50
            clear c50
            have H' := am H
            clear H
            go_wp2
            go_loopg [12, 13] k2 (fun kq v12 v13 w' => ∃ (x12_3 : Bool) (x13_3 : Int), v12 = .bool x12_3 ∧ v13 = .int .i64 x13_3 ∧ Aside0 (impl_AssignmentsOf.l3 kq x4_1 x5_1 x10_2 x71_2 x12_3 x13_3 ji48 x71_2 = some (r1, r2)) ∧ Aside0 (kq ≤ k2) ∧ Aside0 (Kd.R (Kd.int .u64) 48 w' w.heap.size (fun k_ => some k_ ≠ (v170 : Value).ownBlock) v167 x4_1) ∧ Aside0 (Kd.R (Kd.int .u64) 48 w' w.heap.size (fun k_ => some k_ ≠ (v167 : Value).ownBlock) v170 x5_1) ∧ Aside0 (w'.heap[gb164]? = some (.cells #[.int .i64 a0_0, (.slice A0_1 l0_1.length c0_1)] 28 (0, 0))) ∧ Aside0 (Below w.heap.size w w'))
            case atStart => exact ⟨(true), (0), (by first | rfl | (simp; done) | (simp [*]; done)), (by first | rfl | (simp; done) | (simp [*]; done)), H', ⟨Nat.le_refl _⟩, ⟨by (with_reducible repeat (first | apply Kd.R_alloc | apply Kd.R_drewN | apply Kd.R_drew)); exact HO_4.out⟩, ⟨by (with_reducible repeat (first | apply Kd.R_alloc | apply Kd.R_drewN | apply Kd.R_drew)); exact HO_5.out⟩, ⟨by (with_reducible repeat (first | refine k2 ?_ _ | refine k3 ?_ | refine k1 ?_ _)); exact BK164.out⟩, ⟨by repeat (first | (with_reducible first | exact HB.out | apply b1 | apply b2 | apply b3 | refine b4 ?_ GE164.out) | exact HB.out)⟩⟩
            case round =>
             clear H'
             try clear c1
             try clear p1
             try clear q1
             try clear hx1
             try clear c2
             try clear p2
             try clear c3
             try clear p3
             try clear q3
             try clear hx3
             try clear hf3
             try clear c4
             try clear c4b0
             try clear p4
             try clear q4
             try clear hx4
             try clear hf4
             try clear c5
             try clear p6
             try clear c9
             try clear c9b0
             try clear c9b1
             try clear c10
             try clear c10b0
             try clear c10b1
             try clear c17
             try clear p17
             try clear q17
             try clear hx17
             try clear c21
             try clear c21b0
             try clear c22
             try clear c22b0
             try clear c23
             try clear c23b0
             try clear c24
             try clear c24b0
             try clear c25
             try clear c25b0
             try clear c26
             try clear c26b0
             try clear c27
             try clear c27b0
             try clear c28
             try clear c28b0
             try clear c29
             try clear c29b0
             try clear c31
             try clear c31b0
             try clear c31b1
             try clear p33
             try clear q33
             try clear hx33
             try clear hf33
             try clear c37
             try clear c37b0
             try clear c38
             try clear c38b0
             try clear c40
             try clear c40b0
             try clear c40b1
             try clear p42
             try clear q42
             try clear hx42
             try clear hf42
             try clear c47
             try clear c47b0
             try clear c47b1
             try clear c50
             try clear c50b0
             try clear hcz12_0
             try clear hcz12_1
             try clear hcz14_0
             try clear hcz14_1
             try clear hcz17_0
             try clear hcz17_1
             try clear hcz20_0
             try clear hcz20_1
             try clear hcz49_0
             try clear hcz49_1
             try clear hcz6_0
             try clear hcz6_1
             try clear hcz8_0
             try clear hcz8_1
             try clear hfz12_0
             try clear hfz12_1
             try clear hfz14_0
             try clear hfz14_1
             try clear hfz17_0
             try clear hfz17_1
             try clear hfz20_0
             try clear hfz20_1
             try clear hfz49_0
             try clear hfz49_1
             try clear hfz6_0
             try clear hfz6_1
             try clear hfz8_0
             try clear hfz8_1
             try clear hx172_0
             try clear hx173_0
             try clear hx174_0
             try clear hx176_0
             try clear hx33_0
             try clear hx42_0
             try clear p1
             try clear p17
             try clear p172
             try clear p173
             try clear p174
             try clear p176
             try clear p2
             try clear p3
             try clear p33
             try clear p4
             try clear p42
             try clear p6
             try clear q1
             try clear q17
             try clear q172
             try clear q173
             try clear q174
             try clear q176
             try clear q3
             try clear q33
             try clear q4
             try clear q42
             obtain ⟨x12_3, x13_3, rfl, rfl, HA, HK3, HO_4, HO_5, BK164, HB⟩ := hrel
             cases gk with
             | zero => exact absurd HA.out (by simp [impl_AssignmentsOf.l3])
             | succ k3 =>
              have H := HA.out
              clear HA
              simp only [impl_AssignmentsOf.l3] at H
              by_cases c51 : x12_3 = true
              ·subst c51
               have H1 : (if x13_3 < (x4_1.length : Int) then (if 0 ≤ x13_3 then (if (Go.bits .and .u64 x71_2 (rd x4_1 x13_3)) = 0 then (if x13_3 < (x5_1.length : Int) then (impl_AssignmentsOf.l3 k3 x4_1 x5_1 x10_2 x71_2 ((Go.bits .and .u64 (Go.bits .xor .u64 18446744073709551615 x71_2) (rd x5_1 x13_3)) != 0) (wrap64 (x13_3 + 1)) ji48 x71_2) else (none)) else (impl_AssignmentsOf.l3 k3 x4_1 x5_1 x10_2 x71_2 true (wrap64 (x13_3 + 1)) ji48 x71_2)) else (none)) else (impl_AssignmentsOf.l2 k3 x4_1 x5_1 (wrap64 (x10_2 + 1)) ji48 (IntKind.u64.wrap (x71_2 + 1)))) = some (r1, r2) := by first | (rw [if_pos rfl] at H; exact H) | rfl
               clear H
               have H := H1
               clear H1
               by_cases c52 : x13_3 < (x4_1.length : Int)
               ·rw [if_pos c52] at H
                have c52b0 : decide (x13_3 < (x4_1.length : Int)) = true := decide_eq_true c52
                clear c52
                by_cases c53 : 0 ≤ x13_3
                ·rw [if_pos c53] at H
                 have c53b0 : decide (0 ≤ x13_3) = true := decide_eq_true c53
                 clear c53
                 by_cases c54 : (Go.bits .and .u64 x71_2 (rd x4_1 x13_3)) = 0
                 ·rw [if_pos c54] at H
                  have c54b0 : ((Go.bits .and .u64 x71_2 (rd x4_1 x13_3)) == 0) = true := beq_iff_eq.mpr c54
                  have c54b1 : ((Go.bits .and .u64 x71_2 (rd x4_1 x13_3)) != 0) = false := bne_eq_false_iff_eq.mpr c54
                  clear c54
                  by_cases c55 : x13_3 < (x5_1.length : Int)
                  ·rw [if_pos c55] at H
                   have c55b0 : decide (x13_3 < (x5_1.length : Int)) = true := decide_eq_true c55
                   clear c55
                   have H' := am H
                   clear H
                   obtain ⟨Ao56, co56, eo56⟩ := Kd.R_slice HO_4.out
                   subst eo56
                   have p178 : 0 ≤ (x13_3 : Int) := of_decide_eq_true (by first | (with_reducible assumption) | assumption)
                   have q178 : x13_3 < (x4_1.length : Int) := of_decide_eq_true (by first | (with_reducible assumption) | assumption)
                   obtain ⟨ad178, e178, hx178_0⟩ := Kd.at_int (Kd.R_reads' HO_4.out).2.2 x13_3 p178 q178
                   cases e178
                   replace p178 := eq_true p178
                   replace q178 := eq_true q178
                   obtain ⟨Ao57, co57, eo57⟩ := Kd.R_slice HO_5.out
                   subst eo57
                   have p179 : 0 ≤ (x13_3 : Int) := of_decide_eq_true (by first | (with_reducible assumption) | assumption)
                   have q179 : x13_3 < (x5_1.length : Int) := of_decide_eq_true (by first | (with_reducible assumption) | assumption)
                   obtain ⟨ad179, e179, hx179_0⟩ := Kd.at_int (Kd.R_reads' HO_5.out).2.2 x13_3 p179 q179
                   cases e179
                   replace p179 := eq_true p179
                   replace q179 := eq_true q179
                   go_wp2
                   go_roundg k3
                   case measure => have := HK1.out; have := HK2.out; have := HK3.out; omega
                   case rel => exact ⟨(((Go.bits .and .u64 (Go.bits .xor .u64 18446744073709551615 x71_2) (rd x5_1 x13_3)) != 0)), (wrap64 (x13_3 + 1)), (by first | rfl | (simp; done) | (simp [*]; done)), (by first | rfl | (simp; done) | (simp [*]; done)), H', ⟨by have := HK1.out; have := HK2.out; have := HK3.out; omega⟩, ⟨by (with_reducible repeat (first | apply Kd.R_alloc | apply Kd.R_drewN | apply Kd.R_drew)); exact HO_4.out⟩, ⟨by (with_reducible repeat (first | apply Kd.R_alloc | apply Kd.R_drewN | apply Kd.R_drew)); exact HO_5.out⟩, ⟨by (with_reducible repeat (first | refine k2 ?_ _ | refine k3 ?_ | refine k1 ?_ _)); exact BK164.out⟩, ⟨by repeat (first | (with_reducible first | exact HB.out | apply b1 | apply b2 | apply b3 | refine b4 ?_ GE164.out) | exact HB.out)⟩⟩
                  ·rw [if_neg c55] at H
                   exact absurd H (by simp)
                 ·rw [if_neg c54] at H
                  have c54b0 : ((Go.bits .and .u64 x71_2 (rd x4_1 x13_3)) == 0) = false := beq_eq_false_iff_ne.mpr c54
                  have c54b1 : ((Go.bits .and .u64 x71_2 (rd x4_1 x13_3)) != 0) = true := bne_iff_ne.mpr c54
                  have H' := am H
                  clear H
                  obtain ⟨Ao58, co58, eo58⟩ := Kd.R_slice HO_4.out
                  subst eo58
                  have p178 : 0 ≤ (x13_3 : Int) := of_decide_eq_true (by first | (with_reducible assumption) | assumption)
                  have q178 : x13_3 < (x4_1.length : Int) := of_decide_eq_true (by first | (with_reducible assumption) | assumption)
                  obtain ⟨ad178, e178, hx178_0⟩ := Kd.at_int (Kd.R_reads' HO_4.out).2.2 x13_3 p178 q178
                  cases e178
                  replace p178 := eq_true p178
                  replace q178 := eq_true q178
                  go_wp2
                  go_roundg k3
                  case measure => have := HK1.out; have := HK2.out; have := HK3.out; omega
                  case rel => exact ⟨(true), (wrap64 (x13_3 + 1)), (by first | rfl | (simp; done) | (simp [*]; done)), (by first | rfl | (simp; done) | (simp [*]; done)), H', ⟨by have := HK1.out; have := HK2.out; have := HK3.out; omega⟩, ⟨by (with_reducible repeat (first | apply Kd.R_alloc | apply Kd.R_drewN | apply Kd.R_drew)); exact HO_4.out⟩, ⟨by (with_reducible repeat (first | apply Kd.R_alloc | apply Kd.R_drewN | apply Kd.R_drew)); exact HO_5.out⟩, ⟨by (with_reducible repeat (first | refine k2 ?_ _ | refine k3 ?_ | refine k1 ?_ _)); exact BK164.out⟩, ⟨by repeat (first | (with_reducible first | exact HB.out | apply b1 | apply b2 | apply b3 | refine b4 ?_ GE164.out) | exact HB.out)⟩⟩
                ·rw [if_neg c53] at H
                 exact absurd H (by simp)
               ·rw [if_neg c52] at H
                have c52b0 : decide (x13_3 < (x4_1.length : Int)) = false := decide_eq_false c52
                clear c52
                have H' := am H
                clear H
                obtain ⟨Ao59, co59, eo59⟩ := Kd.R_slice HO_4.out
                subst eo59
                go_wp2
                go_roundg k3
                case measure => have := HK1.out; have := HK2.out; have := HK3.out; omega
                case rel => exact ⟨(wrap64 (x10_2 + 1)), (IntKind.u64.wrap (x71_2 + 1)), (by first | rfl | (simp; done) | (simp [*]; done)), (by first | rfl | (simp; done) | (simp [*]; done)), H', ⟨by have := HK1.out; have := HK2.out; have := HK3.out; omega⟩, ⟨by (with_reducible repeat (first | apply Kd.R_alloc | apply Kd.R_drewN | apply Kd.R_drew)); exact HO_4.out⟩, ⟨by (with_reducible repeat (first | apply Kd.R_alloc | apply Kd.R_drewN | apply Kd.R_drew)); exact HO_5.out⟩, ⟨by (with_reducible repeat (first | refine k2 ?_ _ | refine k3 ?_ | refine k1 ?_ _)); exact BK164.out⟩, ⟨by repeat (first | (with_reducible first | exact HB.out | apply b1 | apply b2 | apply b3 | refine b4 ?_ GE164.out) | exact HB.out)⟩⟩
              ·replace c51 := ef c51
               subst c51
               have H1 : (impl_AssignmentsOf.l2 k3 x4_1 x5_1 x10_2 ji48 (IntKind.u64.wrap (x71_2 + 1))) = some (r1, r2) := by first | (rw [if_neg (show ¬ (false = true) by decide)] at H; exact H) | rfl
               clear H
               have H := H1
               clear H1
               have H' := am H
               clear H
               go_wp2
               go_roundg k3
               case measure => have := HK1.out; have := HK2.out; have := HK3.out; omega
               case rel => exact ⟨(x10_2), (IntKind.u64.wrap (x71_2 + 1)), (by first | rfl | (simp; done) | (simp [*]; done)), (by first | rfl | (simp; done) | (simp [*]; done)), H', ⟨by have := HK1.out; have := HK2.out; have := HK3.out; omega⟩, ⟨by (with_reducible repeat (first | apply Kd.R_alloc | apply Kd.R_drewN | apply Kd.R_drew)); exact HO_4.out⟩, ⟨by (with_reducible repeat (first | apply Kd.R_alloc | apply Kd.R_drewN | apply Kd.R_drew)); exact HO_5.out⟩, ⟨by (with_reducible repeat (first | refine k2 ?_ _ | refine k3 ?_ | refine k1 ?_ _)); exact BK164.out⟩, ⟨by repeat (first | (with_reducible first | exact HB.out | apply b1 | apply b2 | apply b3 | refine b4 ?_ GE164.out) | exact HB.out)⟩⟩
           ·rw [if_neg c50] at H
            have c50b0 : decide (x71_2 < ji48) = false := decide_eq_false c50
            clear c50
            simp only [Option.some.injEq, Prod.mk.injEq] at H
            obtain ⟨rfl, rfl⟩ := H
            go_wp2
            go_ret2
            exact ⟨by first | rfl | (simp [errW_none, errW_some] <;> rfl) | (simp only [← hji46, ← hji48]; first | rfl | (simp [errW_none, errW_some] <;> rfl)) | (simp [*, errW_none, errW_some] <;> rfl), by repeat (first | (with_reducible first | exact HB.out | apply b1 | apply b2 | apply b3 | refine b4 ?_ GE164.out) | exact HB.out)⟩
        ·rw [if_neg c47] at H
         exact absurd H (by simp)
    ·rw [if_neg c10] at H
     exact absurd H (by simp)
   ·rw [if_neg c9] at H
    exact absurd H (by simp)
 ·replace c3 := ef c3
  subst c3
  have H1 : (some (0, 1)) = some (r1, r2) := by first | (rw [if_neg (show ¬ (false = true) by decide)] at H; exact H) | rfl
  clear H
  have H := H1
  clear H1
  simp only [Option.some.injEq, Prod.mk.injEq] at H
  obtain ⟨rfl, rfl⟩ := H
  go_enter Try.func9, Try.ntmps9
  go_wp2_with (first | ((with_reducible refine gate_dst (N := 1) rfl ?_); (try (refine gate_guard (by rfl) ?_; dsimp only)); refine box_event ?hg (N := 1) ?hd (cs := #[.int .i64 a0_0, .slice A0_1 l0_1.length c0_1]) (t := 28) ?hr ?_; (case hd => rfl); (case hg => rfl); (case hr => first | (go_simp; done) | (go_simp; rfl)); intro gb164 hg w60 hbox hb; have n0_ := am (b6 (by repeat (first | (with_reducible first | exact HB.out | apply b1 | apply b2 | apply b3) | exact HB.out)) hb); have n1_ := am (hbox); have n2_ := am ((by rw [hg]; exact (b5 (by repeat (first | (with_reducible first | exact HB.out | apply b1 | apply b2 | apply b3) | exact HB.out))) : w.heap.size ≤ gb164)); have n3_ := n2_; clear HB; have HB := n0_; have BK164 := n1_; have GW164 := n2_; have GE164 := n3_; clear n0_ n1_ n2_ n3_; clear hb hbox hg; have hcz61_0 : w60.cell? ⟨gb164, 0, none⟩ = some (.int .i64 a0_0) := (kc BK164.out 0).trans rfl; have hcz61_1 : w60.cell? ⟨gb164, 1, none⟩ = some (.slice A0_1 l0_1.length c0_1) := (kc BK164.out 1).trans rfl; have hfz61_0 := kf BK164.out 0; have hfz61_1 := kf BK164.out 1) | ((with_reducible refine gate_callee (f := 27) rfl ?_); refine goesL_ (some 15) rfl rfl Try.func27 (by kernel_rfl) rfl #[.agg #[.int .i64 a0_0, .slice A0_1 l0_1.length c0_1]] rfl (by (try simp only [List.map_toArray, List.map_cons, List.map_nil]); first | done | rfl | (simp only [List.length_drop, List.length_take]; rfl)) ?_; (with_reducible refine (impl_IsFormula.calls k a0_0 _ _ l0_1 false _ ?side1 ?side2 A2.out).mono ?_); (case side1 => repeat (first | exact (Kd.C_below HR0_1.out HB.out) | (with_reducible refine Kd.C_alloc ?_ _) | (with_reducible refine Kd.C_drewN ?_ _) | (with_reducible refine Kd.C_drew ?_))); (case side2 => exact HC0_1.out); rintro e w62 ⟨rfl, hb⟩; refine ⟨_, rfl, ?_⟩; have n0_ := am (k4 (g := gb164) (o := .cells #[.int .i64 a0_0, .slice A0_1 l0_1.length c0_1] 28 (0, 0)) (by (with_reducible repeat (first | refine k2 ?_ _ | refine k3 ?_ | refine k1 ?_ _)); exact BK164.out) hb); have n1_ := am (b6 (by repeat (first | (with_reducible first | exact HB.out | apply b1 | apply b2 | apply b3 | refine b4 ?_ GE164.out) | exact HB.out)) hb); clear BK164; clear HB; have BK164 := n0_; have HB := n1_; clear n0_ n1_; (try clear hb); (try clear hb2); (try clear hk); (try clear hi)))
  go_ret2
  exact ⟨by first | rfl | (simp [errW_none, errW_some] <;> rfl) | (simp [*, errW_none, errW_some] <;> rfl), by repeat (first | (with_reducible first | exact HB.out | apply b1 | apply b2 | apply b3 | refine b4 ?_ GE164.out) | exact HB.out)⟩

end Go.Proofs.Ytabmmhkikemdjaa.Q
