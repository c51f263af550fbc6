/- Written by a program of this session (wip/tools/pp.py) out of the translation, with the kit's printer. -/
import Derived.Test.YtcgnnfaemjjljaaDoorQ0
import Derived.Test.YtcgnnfaemjjljaaDoorQ29
import Derived.Test.YtcgnnfaemjjljaaDoorQ30
namespace Go.Proofs.YtcgnnfaemjjljaaDoor.Q
open Go.RowKit Go.Proofs.YtcgnnfaemjjljaaDoorW.PrintWords Go.Proofs.YtcgnnfaemjjljaaDoorW.PrintLast Go.Proofs.YtcgnnfaemjjljaaDoorW.PrintMore
attribute [local go_sem] max2_int min2_int max_two min_two max_three min_three max_four min_four
set_option linter.unusedVariables false
set_option linter.unusedSimpArgs false

/-! ### spec_l23Touch: function 68 -/
mutual
def spec_l23Touch.l0 : Nat → List (S42) → Int → Option (Bool)
 | 0, _, _ => none
 | k + 1, x0, x3 => if x3 < (x0.length : Int) then (if 0 ≤ x3 then ((spec_l02Index.f k x0 (wrap64 (((rd_T42 x0 x3).f0) + 1)) ((rd_T42 x0 x3).f1)).bind fun t346 => ((spec_l02Index.f k x0 (wrap64 (((rd_T42 x0 x3).f0) - 1)) ((rd_T42 x0 x3).f1)).bind fun t347 => ((spec_l02Index.f k x0 ((rd_T42 x0 x3).f0) (wrap64 (((rd_T42 x0 x3).f1) + 1))).bind fun t348 => (if t346 ≥ 0 then (spec_l23Touch.j1 k x0 x3 (decide (t347 ≥ 0)) (decide (t348 ≥ 0)) false ((rd_T42 x0 x3).f0) ((rd_T42 x0 x3).f1)) else (if t348 ≥ 0 then (spec_l23Touch.j1 k x0 x3 (decide (t347 ≥ 0)) (decide (t348 ≥ 0)) false ((rd_T42 x0 x3).f0) ((rd_T42 x0 x3).f1)) else ((spec_l02Index.f k x0 (wrap64 (((rd_T42 x0 x3).f0) + 1)) (wrap64 (((rd_T42 x0 x3).f1) + 1))).bind fun t349 => (spec_l23Touch.j1 k x0 x3 (decide (t347 ≥ 0)) (decide (t348 ≥ 0)) (decide (t349 ≥ 0)) ((rd_T42 x0 x3).f0) ((rd_T42 x0 x3).f1)))))))) else (none)) else (some false)
def spec_l23Touch.j1 : Nat → List (S42) → Int → Bool → Bool → Bool → Int → Int → Option (Bool)
 | 0, _, _, _, _, _, _, _ => none
 | k + 1, x0, x3, x6, x7, x62, x346000, x346001 => if x62 = true then (some true) else (if x6 = true then (spec_l23Touch.l0 k x0 (wrap64 (x3 + 1))) else (if x7 = true then (spec_l23Touch.l0 k x0 (wrap64 (x3 + 1))) else ((spec_l02Index.f k x0 (wrap64 (x346000 - 1)) (wrap64 (x346001 + 1))).bind fun t350 => (if t350 ≥ 0 then (some true) else (spec_l23Touch.l0 k x0 (wrap64 (x3 + 1)))))))
end
def spec_l23Touch.f (k : Nat) (l0 : List (S42)) : Option (Bool) := spec_l23Touch.l0 k l0 0
theorem spec_l23Touch.mono_l : ∀ k, (∀ y0 y1, LeO (spec_l23Touch.l0 k y0 y1) (spec_l23Touch.l0 (k + 1) y0 y1)) ∧ (∀ y0 y1 y2 y3 y4 y5 y6, LeO (spec_l23Touch.j1 k y0 y1 y2 y3 y4 y5 y6) (spec_l23Touch.j1 (k + 1) y0 y1 y2 y3 y4 y5 y6))
 | 0 => ⟨fun _ _ r h => by simp [spec_l23Touch.l0] at h, fun _ _ _ _ _ _ _ r h => by simp [spec_l23Touch.j1] at h⟩
 | k + 1 => by
  obtain ⟨ih0, ih1⟩ := spec_l23Touch.mono_l k
  refine ⟨?_, ?_⟩
  ·intro y0 y1
   unfold spec_l23Touch.l0
   repeat' first
   | (with_reducible exact ih0 _ _)
   | (with_reducible exact ih1 _ _ _ _ _ _ _)
   | (with_reducible exact spec_l02Index.mono _ _ _ _)
   | (with_reducible exact LeO.refl _)
   | (with_reducible exact LeO.none _)
   | (with_reducible refine LeO.ite ?_ ?_)
   | (with_reducible refine LeO.bind ?_ (fun _ => ?_))
   | exact ih0 _ _
   | exact ih1 _ _ _ _ _ _ _
   | exact spec_l02Index.mono _ _ _ _
   | exact LeO.none _
   | refine LeO.ite ?_ ?_
   | refine LeO.bind ?_ (fun _ => ?_)
  ·intro y0 y1 y2 y3 y4 y5 y6
   unfold spec_l23Touch.j1
   repeat' first
   | (with_reducible exact ih0 _ _)
   | (with_reducible exact ih1 _ _ _ _ _ _ _)
   | (with_reducible exact spec_l02Index.mono _ _ _ _)
   | (with_reducible exact LeO.refl _)
   | (with_reducible exact LeO.none _)
   | (with_reducible refine LeO.ite ?_ ?_)
   | (with_reducible refine LeO.bind ?_ (fun _ => ?_))
   | exact ih0 _ _
   | exact ih1 _ _ _ _ _ _ _
   | exact spec_l02Index.mono _ _ _ _
   | exact LeO.none _
   | refine LeO.ite ?_ ?_
   | refine LeO.bind ?_ (fun _ => ?_)
theorem spec_l23Touch.mono : ∀ a0 k, LeO (spec_l23Touch.f k a0) (spec_l23Touch.f (k + 1) a0) := by
 intro a0 k
 obtain ⟨ih0, ih1⟩ := spec_l23Touch.mono_l k
 unfold spec_l23Touch.f
 repeat' first
   | (with_reducible exact ih0 _ _)
   | (with_reducible exact ih1 _ _ _ _ _ _ _)
   | (with_reducible exact spec_l02Index.mono _ _ _ _)
   | (with_reducible exact LeO.refl _)
   | (with_reducible exact LeO.none _)
   | (with_reducible refine LeO.ite ?_ ?_)
   | (with_reducible refine LeO.bind ?_ (fun _ => ?_))
   | exact ih0 _ _
   | exact ih1 _ _ _ _ _ _ _
   | exact spec_l02Index.mono _ _ _ _
   | exact LeO.none _
   | refine LeO.ite ?_ ?_
   | refine LeO.bind ?_ (fun _ => ?_)
set_option maxHeartbeats 8000000 in
set_option maxRecDepth 100000 in
theorem spec_l23Touch.calls (k : Nat) (A0 : Option Addr) (c0 : Nat) (l0 : List (S42)) (r : Bool) (w : World) (hr0 : Kd.C k42 w A0 l0.length l0) (hc0 : l0.length ≤ c0) (h : spec_l23Touch.f k l0 = some r) :
  Calls Tryd.prog 68 #[.slice A0 l0.length c0] w fun e w' => e = .returned (.bool r) ∧ Below w.heap.size w w' := by
 have hu42 := Tryd.underlying42
 have HR0 := am hr0
 have HC0 := am hc0
 clear hr0 hc0
 have HB := am (Below.refl w.heap.size w)
 have H : (spec_l23Touch.l0 k l0 0) = some r := h
 clear h
 have H' := am H
 clear H
 go_enter Tryd.func68, Tryd.ntmps68
 go_wp2
 go_loopg [3] k (fun kq v3 w' => ∃ (x3_1 : Int), v3 = .int .i64 x3_1 ∧ Aside0 (spec_l23Touch.l0 kq l0 x3_1 = some r) ∧ Aside0 (kq ≤ k) ∧ Aside0 (Below w.heap.size w w'))
 case atStart => exact ⟨(0), (by first | rfl | (simp; done) | (simp [*]; done)), H', ⟨Nat.le_refl _⟩, ⟨by repeat (first | (with_reducible first | exact HB.out | apply b1 | apply b2 | apply b3) | exact HB.out)⟩⟩
 case round =>
  clear H'
  obtain ⟨x3_1, rfl, HA, HK1, HB⟩ := hrel
  cases gk with
  | zero => exact absurd HA.out (by simp [spec_l23Touch.l0])
  | succ k1 =>
   have H := HA.out
   clear HA
   simp only [spec_l23Touch.l0] at H
   by_cases c2 : x3_1 < (l0.length : Int)
   ·rw [if_pos c2] at H
    have c2b0 : decide (x3_1 < (l0.length : Int)) = true := decide_eq_true c2
    clear c2
    by_cases c3 : 0 ≤ x3_1
    ·rw [if_pos c3] at H
     have c3b0 : decide (0 ≤ x3_1) = true := decide_eq_true c3
     clear c3
     replace H := ob H
     obtain ⟨t346, A40, H⟩ := H
     replace H : ((spec_l02Index.f k1 l0 (wrap64 (((rd_T42 l0 x3_1).f0) - 1)) ((rd_T42 l0 x3_1).f1)).bind fun t347 => ((spec_l02Index.f k1 l0 ((rd_T42 l0 x3_1).f0) (wrap64 (((rd_T42 l0 x3_1).f1) + 1))).bind fun t348 => (if t346 ≥ 0 then (spec_l23Touch.j1 k1 l0 x3_1 (decide (t347 ≥ 0)) (decide (t348 ≥ 0)) false ((rd_T42 l0 x3_1).f0) ((rd_T42 l0 x3_1).f1)) else (if t348 ≥ 0 then (spec_l23Touch.j1 k1 l0 x3_1 (decide (t347 ≥ 0)) (decide (t348 ≥ 0)) false ((rd_T42 l0 x3_1).f0) ((rd_T42 l0 x3_1).f1)) else ((spec_l02Index.f k1 l0 (wrap64 (((rd_T42 l0 x3_1).f0) + 1)) (wrap64 (((rd_T42 l0 x3_1).f1) + 1))).bind fun t349 => (spec_l23Touch.j1 k1 l0 x3_1 (decide (t347 ≥ 0)) (decide (t348 ≥ 0)) (decide (t349 ≥ 0)) ((rd_T42 l0 x3_1).f0) ((rd_T42 l0 x3_1).f1))))))) = some r := H
     have A4 := am A40
     clear A40
     replace H := ob H
     obtain ⟨t347, A50, H⟩ := H
     replace H : ((spec_l02Index.f k1 l0 ((rd_T42 l0 x3_1).f0) (wrap64 (((rd_T42 l0 x3_1).f1) + 1))).bind fun t348 => (if t346 ≥ 0 then (spec_l23Touch.j1 k1 l0 x3_1 (decide (t347 ≥ 0)) (decide (t348 ≥ 0)) false ((rd_T42 l0 x3_1).f0) ((rd_T42 l0 x3_1).f1)) else (if t348 ≥ 0 then (spec_l23Touch.j1 k1 l0 x3_1 (decide (t347 ≥ 0)) (decide (t348 ≥ 0)) false ((rd_T42 l0 x3_1).f0) ((rd_T42 l0 x3_1).f1)) else ((spec_l02Index.f k1 l0 (wrap64 (((rd_T42 l0 x3_1).f0) + 1)) (wrap64 (((rd_T42 l0 x3_1).f1) + 1))).bind fun t349 => (spec_l23Touch.j1 k1 l0 x3_1 (decide (t347 ≥ 0)) (decide (t348 ≥ 0)) (decide (t349 ≥ 0)) ((rd_T42 l0 x3_1).f0) ((rd_T42 l0 x3_1).f1)))))) = some r := H
     have A5 := am A50
     clear A50
     replace H := ob H
     obtain ⟨t348, A60, H⟩ := H
     replace H : (if t346 ≥ 0 then (spec_l23Touch.j1 k1 l0 x3_1 (decide (t347 ≥ 0)) (decide (t348 ≥ 0)) false ((rd_T42 l0 x3_1).f0) ((rd_T42 l0 x3_1).f1)) else (if t348 ≥ 0 then (spec_l23Touch.j1 k1 l0 x3_1 (decide (t347 ≥ 0)) (decide (t348 ≥ 0)) false ((rd_T42 l0 x3_1).f0) ((rd_T42 l0 x3_1).f1)) else ((spec_l02Index.f k1 l0 (wrap64 (((rd_T42 l0 x3_1).f0) + 1)) (wrap64 (((rd_T42 l0 x3_1).f1) + 1))).bind fun t349 => (spec_l23Touch.j1 k1 l0 x3_1 (decide (t347 ≥ 0)) (decide (t348 ≥ 0)) (decide (t349 ≥ 0)) ((rd_T42 l0 x3_1).f0) ((rd_T42 l0 x3_1).f1))))) = some r := H
     have A6 := am A60
     clear A60
     have HC7 := am H
     clear H
     have p344 : 0 ≤ (x3_1 : Int) := of_decide_eq_true (by first | (with_reducible assumption) | assumption)
     have q344 : x3_1 < (l0.length : Int) := of_decide_eq_true (by first | (with_reducible assumption) | assumption)
     obtain ⟨ad344, e344, hx344_0, hx344_1⟩ := at_T42 HR0.out x3_1 p344 q344
     cases e344
     replace hx344_0 := pc HB.out hx344_0
     replace hx344_1 := pc HB.out hx344_1
     replace p344 := eq_true p344
     replace q344 := eq_true q344
     go_upto_region 8 with (first | ((with_reducible refine gate_dst (N := 4) rfl ?_); refine box_event ?hg (N := 4) ?hd (cs := #[.int .i64 0, .int .i64 0]) (t := 42) ?hr ?_; (case hd => rfl); (case hg => rfl); (case hr => first | (go_simp; done) | (go_simp; rfl)); intro gb345 hg w8 hbox hb; have n0_ := am (b6 (by repeat (first | (with_reducible first | exact HB.out | apply b1 | apply b2 | apply b3) | exact HB.out)) hb); have n1_ := am (hbox); have n2_ := am ((by rw [hg]; exact (b5 (by repeat (first | (with_reducible first | exact HB.out | apply b1 | apply b2 | apply b3) | exact HB.out))) : w.heap.size ≤ gb345)); have n3_ := n2_; clear HB; have HB := n0_; have BK345 := n1_; have GW345 := n2_; have GE345 := n3_; clear n0_ n1_ n2_ n3_; clear hb hbox hg; have hcz9_0 : w8.cell? ⟨gb345, 0, none⟩ = some (.int .i64 0) := (kc BK345.out 0).trans rfl; have hcz9_1 : w8.cell? ⟨gb345, 1, none⟩ = some (.int .i64 0) := (kc BK345.out 1).trans rfl; have hfz9_0 := kf BK345.out 0; have hfz9_1 := kf BK345.out 1) | ((with_reducible refine gate_callee (f := 70) rfl ?_); refine goesL_ (some 25) rfl rfl Tryd.func70 (by kernel_rfl) rfl #[.slice (some ad344) l0.length c0, .agg #[.int .i64 (wrap64 (((rd_T42 l0 x3_1).f0) + 1)), .int .i64 ((rd_T42 l0 x3_1).f1)]] rfl (by (try simp only [List.map_toArray, List.map_cons, List.map_nil]); first | done | rfl | (simp only [List.length_drop, List.length_take]; rfl)) ?_; (with_reducible refine (spec_l02Index.calls k1 _ _ l0 (wrap64 (((rd_T42 l0 x3_1).f0) + 1)) ((rd_T42 l0 x3_1).f1) t346 _ ?side1 ?side2 A4.out).mono ?_); (case side1 => exact Kd.C_below HR0.out (by repeat (first | (with_reducible first | exact HB.out | apply b1 | apply b2 | apply b3 | refine b4 ?_ GE345.out) | exact HB.out))); (case side2 => exact HC0.out); rintro e w10 ⟨rfl, hb⟩; refine ⟨_, rfl, ?_⟩; have n0_ := am (k4 (g := gb345) (o := .cells #[.int .i64 ((rd_T42 l0 x3_1).f0), .int .i64 ((rd_T42 l0 x3_1).f1)] 42 (0, 0)) (by (with_reducible repeat (first | refine k2 ?_ _ | refine k3 ?_ | refine k1 ?_ _)); refine blk_put (cs := #[.int .i64 ((rd_T42 l0 x3_1).f0), .int .i64 0]) ?_ 1 _ rfl; (with_reducible repeat (first | refine k2 ?_ _ | refine k3 ?_ | refine k1 ?_ _)); refine blk_put (cs := #[.int .i64 0, .int .i64 0]) ?_ 0 _ rfl; (with_reducible repeat (first | refine k2 ?_ _ | refine k3 ?_ | refine k1 ?_ _)); exact BK345.out) hb); have n1_ := am (b6 (by repeat (first | (with_reducible first | exact HB.out | apply b1 | apply b2 | apply b3 | refine b4 ?_ GE345.out) | exact HB.out)) hb); clear BK345; clear HB; have BK345 := n0_; have HB := n1_; clear n0_ n1_; (try clear hb); (try clear hb2); (try clear hk); (try clear hi); have hcz11_0 : w10.cell? ⟨gb345, 0, none⟩ = some (.int .i64 ((rd_T42 l0 x3_1).f0)) := (kc BK345.out 0).trans rfl; have hcz11_1 : w10.cell? ⟨gb345, 1, none⟩ = some (.int .i64 ((rd_T42 l0 x3_1).f1)) := (kc BK345.out 1).trans rfl; have hfz11_0 := kf BK345.out 0; have hfz11_1 := kf BK345.out 1) | ((with_reducible refine gate_callee (f := 70) rfl ?_); refine goesL_ (some 34) rfl rfl Tryd.func70 (by kernel_rfl) rfl #[.slice (some ad344) l0.length c0, .agg #[.int .i64 (wrap64 (((rd_T42 l0 x3_1).f0) - 1)), .int .i64 ((rd_T42 l0 x3_1).f1)]] rfl (by (try simp only [List.map_toArray, List.map_cons, List.map_nil]); first | done | rfl | (simp only [List.length_drop, List.length_take]; rfl)) ?_; (with_reducible refine (spec_l02Index.calls k1 _ _ l0 (wrap64 (((rd_T42 l0 x3_1).f0) - 1)) ((rd_T42 l0 x3_1).f1) t347 _ ?side1 ?side2 A5.out).mono ?_); (case side1 => repeat (first | exact (Kd.C_below HR0.out HB.out) | (with_reducible refine Kd.C_alloc ?_ _) | (with_reducible refine Kd.C_drewN ?_ _) | (with_reducible refine Kd.C_drew ?_))); (case side2 => exact HC0.out); rintro e w12 ⟨rfl, hb⟩; refine ⟨_, rfl, ?_⟩; have n0_ := am (k4 (g := gb345) (o := .cells #[.int .i64 ((rd_T42 l0 x3_1).f0), .int .i64 ((rd_T42 l0 x3_1).f1)] 42 (0, 0)) (by (with_reducible repeat (first | refine k2 ?_ _ | refine k3 ?_ | refine k1 ?_ _)); exact BK345.out) hb); have n1_ := am (b6 (by repeat (first | (with_reducible first | exact HB.out | apply b1 | apply b2 | apply b3 | refine b4 ?_ GE345.out) | exact HB.out)) hb); clear BK345; clear HB; have BK345 := n0_; have HB := n1_; clear n0_ n1_; (try clear hb); (try clear hb2); (try clear hk); (try clear hi); have hcz13_0 : w12.cell? ⟨gb345, 0, none⟩ = some (.int .i64 ((rd_T42 l0 x3_1).f0)) := (kc BK345.out 0).trans rfl; have hcz13_1 : w12.cell? ⟨gb345, 1, none⟩ = some (.int .i64 ((rd_T42 l0 x3_1).f1)) := (kc BK345.out 1).trans rfl; have hfz13_0 := kf BK345.out 0; have hfz13_1 := kf BK345.out 1) | ((with_reducible refine gate_callee (f := 70) rfl ?_); refine goesL_ (some 43) rfl rfl Tryd.func70 (by kernel_rfl) rfl #[.slice (some ad344) l0.length c0, .agg #[.int .i64 ((rd_T42 l0 x3_1).f0), .int .i64 (wrap64 (((rd_T42 l0 x3_1).f1) + 1))]] rfl (by (try simp only [List.map_toArray, List.map_cons, List.map_nil]); first | done | rfl | (simp only [List.length_drop, List.length_take]; rfl)) ?_; (with_reducible refine (spec_l02Index.calls k1 _ _ l0 ((rd_T42 l0 x3_1).f0) (wrap64 (((rd_T42 l0 x3_1).f1) + 1)) t348 _ ?side1 ?side2 A6.out).mono ?_); (case side1 => repeat (first | exact (Kd.C_below HR0.out HB.out) | (with_reducible refine Kd.C_alloc ?_ _) | (with_reducible refine Kd.C_drewN ?_ _) | (with_reducible refine Kd.C_drew ?_))); (case side2 => exact HC0.out); rintro e w14 ⟨rfl, hb⟩; refine ⟨_, rfl, ?_⟩; have n0_ := am (k4 (g := gb345) (o := .cells #[.int .i64 ((rd_T42 l0 x3_1).f0), .int .i64 ((rd_T42 l0 x3_1).f1)] 42 (0, 0)) (by (with_reducible repeat (first | refine k2 ?_ _ | refine k3 ?_ | refine k1 ?_ _)); exact BK345.out) hb); have n1_ := am (b6 (by repeat (first | (with_reducible first | exact HB.out | apply b1 | apply b2 | apply b3 | refine b4 ?_ GE345.out) | exact HB.out)) hb); clear BK345; clear HB; have BK345 := n0_; have HB := n1_; clear n0_ n1_; (try clear hb); (try clear hb2); (try clear hk); (try clear hi)))
     (try simp only [Act.put, sa])
     go_cut [5, 6, 7, 62] (fun v5 v6 v7 v62 wc => ∃ (kq : Nat) (x62_6 : Bool), (v5 = .bool (decide (0 ≤ t346)) ∧ v6 = .bool (decide (0 ≤ t347)) ∧ v7 = .bool (decide (0 ≤ t348))) ∧ v62 = .bool x62_6 ∧ Aside0 (spec_l23Touch.j1 kq l0 x3_1 (decide (t347 ≥ 0)) (decide (t348 ≥ 0)) x62_6 ((rd_T42 l0 x3_1).f0) ((rd_T42 l0 x3_1).f1) = some r) ∧ Aside0 (kq ≤ k1) ∧ Aside0 (wc.heap[gb345]? = some (.cells #[.int .i64 ((rd_T42 l0 x3_1).f0), .int .i64 ((rd_T42 l0 x3_1).f1)] 42 (0, 0))) ∧ Aside0 (Below w.heap.size w wc))
     case first =>
      have H := HC7.out
      clear HC7
      by_cases c15 : t346 ≥ 0
      ·rw [if_pos c15] at H
       have c15b0 : decide (0 ≤ t346) = true := decide_eq_true c15
       clear c15
       (first | rw [c15b0] | (simp only [i64_w, i32_w]; rw [c15b0]) | skip)
       have H' := am H
       clear H
       go_wp2
       go_meet
       case rel => exact ⟨_, (false), (by refine ⟨?_, ?_, ?_⟩ <;> first | rfl | (simp [*]; done)), (by first | rfl | (simp; done) | (simp [*]; done)), H', ⟨by have := HK1.out; first | omega | exact Nat.le_refl _⟩, ⟨by (with_reducible repeat (first | refine k2 ?_ _ | refine k3 ?_ | refine k1 ?_ _)); exact BK345.out⟩, ⟨by repeat (first | (with_reducible first | exact HB.out | apply b1 | apply b2 | apply b3 | refine b4 ?_ GE345.out) | exact HB.out)⟩⟩
      ·rw [if_neg c15] at H
       have c15b0 : decide (0 ≤ t346) = false := decide_eq_false c15
       clear c15
       (first | rw [c15b0] | (simp only [i64_w, i32_w]; rw [c15b0]) | skip)
       by_cases c16 : t348 ≥ 0
       ·rw [if_pos c16] at H
        have c16b0 : decide (0 ≤ t348) = true := decide_eq_true c16
        clear c16
        have H' := am H
        clear H
        go_wp2
        go_meet
        case rel => exact ⟨_, (false), (by refine ⟨?_, ?_, ?_⟩ <;> first | rfl | (simp [*]; done)), (by first | rfl | (simp; done) | (simp [*]; done)), H', ⟨by have := HK1.out; first | omega | exact Nat.le_refl _⟩, ⟨by (with_reducible repeat (first | refine k2 ?_ _ | refine k3 ?_ | refine k1 ?_ _)); exact BK345.out⟩, ⟨by repeat (first | (with_reducible first | exact HB.out | apply b1 | apply b2 | apply b3 | refine b4 ?_ GE345.out) | exact HB.out)⟩⟩
       ·rw [if_neg c16] at H
        have c16b0 : decide (0 ≤ t348) = false := decide_eq_false c16
        clear c16
        replace H := ob H
        obtain ⟨t349, A170, H⟩ := H
        replace H : (spec_l23Touch.j1 k1 l0 x3_1 (decide (t347 ≥ 0)) (decide (t348 ≥ 0)) (decide (t349 ≥ 0)) ((rd_T42 l0 x3_1).f0) ((rd_T42 l0 x3_1).f1)) = some r := H
        have A17 := am A170
        clear A170
        have H' := am H
        clear H
        have hcz18_0 : w14.cell? ⟨gb345, 0, none⟩ = some (.int .i64 ((rd_T42 l0 x3_1).f0)) := (kc BK345.out 0).trans rfl
        have hcz18_1 : w14.cell? ⟨gb345, 1, none⟩ = some (.int .i64 ((rd_T42 l0 x3_1).f1)) := (kc BK345.out 1).trans rfl
        have hfz18_0 := kf BK345.out 0
        have hfz18_1 := kf BK345.out 1
        go_wp2_with (first | (go_at_call 70; (with_reducible refine (spec_l02Index.calls k1 _ _ l0 (wrap64 (((rd_T42 l0 x3_1).f0) + 1)) (wrap64 (((rd_T42 l0 x3_1).f1) + 1)) t349 _ ?side1 ?side2 A17.out).mono ?_); (case side1 => repeat (first | exact (Kd.C_below HR0.out HB.out) | (with_reducible refine Kd.C_alloc ?_ _) | (with_reducible refine Kd.C_drewN ?_ _) | (with_reducible refine Kd.C_drew ?_))); (case side2 => exact HC0.out); rintro e w19 ⟨rfl, hb⟩; have n0_ := am (k4 (g := gb345) (o := .cells #[.int .i64 ((rd_T42 l0 x3_1).f0), .int .i64 ((rd_T42 l0 x3_1).f1)] 42 (0, 0)) (by (with_reducible repeat (first | refine k2 ?_ _ | refine k3 ?_ | refine k1 ?_ _)); exact BK345.out) hb); have n1_ := am (b6 (by repeat (first | (with_reducible first | exact HB.out | apply b1 | apply b2 | apply b3 | refine b4 ?_ GE345.out) | exact HB.out)) hb); clear BK345; clear HB; have BK345 := n0_; have HB := n1_; clear n0_ n1_; (try clear hb); (try clear hb2); (try clear hk); (try clear hi)))
        go_meet
        case rel => exact ⟨_, (decide (t349 ≥ 0)), (by refine ⟨?_, ?_, ?_⟩ <;> first | rfl | (simp [*]; done)), (by first | rfl | (simp; done) | (simp [*]; done)), H', ⟨by have := HK1.out; first | omega | exact Nat.le_refl _⟩, ⟨by (with_reducible repeat (first | refine k2 ?_ _ | refine k3 ?_ | refine k1 ?_ _)); exact BK345.out⟩, ⟨by repeat (first | (with_reducible first | exact HB.out | apply b1 | apply b2 | apply b3 | refine b4 ?_ GE345.out) | exact HB.out)⟩⟩
     case rest =>
      clear HC7
      try clear c1
      try clear c2
      try clear c2b0
      try clear p2
      try clear c3
      try clear c3b0
      try clear p3
      try clear q3
      try clear hx3
      try clear c6
      try clear p6
      try clear c7
      try clear c15
      try clear c15b0
      try clear c16
      try clear c16b0
      try clear hcz11_0
      try clear hcz11_1
      try clear hcz13_0
      try clear hcz13_1
      try clear hcz18_0
      try clear hcz18_1
      try clear hcz9_0
      try clear hcz9_1
      try clear hfz11_0
      try clear hfz11_1
      try clear hfz13_0
      try clear hfz13_1
      try clear hfz18_0
      try clear hfz18_1
      try clear hfz9_0
      try clear hfz9_1
      try clear hx344_0
      try clear hx344_1
      try clear p344
      try clear q344
      obtain ⟨kq, x62_6, ⟨rfl, rfl, rfl⟩, rfl, HA, HJ6, BK345, HB⟩ := hcut
      cases kq with
      | zero => exact absurd HA.out (by simp [spec_l23Touch.j1])
      | succ kj6 =>
       have H := HA.out
       clear HA
       simp only [spec_l23Touch.j1] at H
       by_cases c20 : x62_6 = true
       ·subst c20
        have H1 : (some true) = some r := by first | (rw [if_pos rfl] at H; exact H) | rfl
        clear H
        have H := H1
        clear H1
        obtain rfl := oi H
        go_wp2
        go_ret
        exact ⟨by first | rfl | (simp [errW_none, errW_some] <;> rfl) | (simp [*, errW_none, errW_some] <;> rfl), by repeat (first | (with_reducible first | exact HB.out | apply b1 | apply b2 | apply b3 | refine b4 ?_ GE345.out) | exact HB.out)⟩
       ·replace c20 := ef c20
        subst c20
        have H1 : (if (decide (t347 ≥ 0)) = true then (spec_l23Touch.l0 kj6 l0 (wrap64 (x3_1 + 1))) else (if (decide (t348 ≥ 0)) = true then (spec_l23Touch.l0 kj6 l0 (wrap64 (x3_1 + 1))) else ((spec_l02Index.f kj6 l0 (wrap64 (((rd_T42 l0 x3_1).f0) - 1)) (wrap64 (((rd_T42 l0 x3_1).f1) + 1))).bind fun t350 => (if t350 ≥ 0 then (some true) else (spec_l23Touch.l0 kj6 l0 (wrap64 (x3_1 + 1))))))) = some r := by first | (rw [if_neg (show ¬ (false = true) by decide)] at H; exact H) | rfl
        clear H
        have H := H1
        clear H1
        by_cases c21 : (decide (t347 ≥ 0)) = true
        ·rw [if_pos c21] at H
         have c21b0 : (decide (t347 ≥ 0)) = true := c21
         clear c21
         have H' := am H
         clear H
         go_wp2
         go_roundg kj6
         case measure => have := HK1.out; have := HJ6.out; omega
         case rel => exact ⟨(wrap64 (x3_1 + 1)), (by first | rfl | (simp; done) | (simp [*]; done)), H', ⟨by have := HK1.out; have := HJ6.out; omega⟩, ⟨by repeat (first | (with_reducible first | exact HB.out | apply b1 | apply b2 | apply b3 | refine b4 ?_ GE345.out) | exact HB.out)⟩⟩
        ·rw [if_neg c21] at H
         have c21b0 : (decide (t347 ≥ 0)) = false := by simpa using c21
         clear c21
         by_cases c22 : (decide (t348 ≥ 0)) = true
         ·rw [if_pos c22] at H
          have c22b0 : (decide (t348 ≥ 0)) = true := c22
          clear c22
          have H' := am H
          clear H
          go_wp2
          go_roundg kj6
          case measure => have := HK1.out; have := HJ6.out; omega
          case rel => exact ⟨(wrap64 (x3_1 + 1)), (by first | rfl | (simp; done) | (simp [*]; done)), H', ⟨by have := HK1.out; have := HJ6.out; omega⟩, ⟨by repeat (first | (with_reducible first | exact HB.out | apply b1 | apply b2 | apply b3 | refine b4 ?_ GE345.out) | exact HB.out)⟩⟩
         ·rw [if_neg c22] at H
          have c22b0 : (decide (t348 ≥ 0)) = false := by simpa using c22
          clear c22
          replace H := ob H
          obtain ⟨t350, A230, H⟩ := H
          replace H : (if t350 ≥ 0 then (some true) else (spec_l23Touch.l0 kj6 l0 (wrap64 (x3_1 + 1)))) = some r := H
          have A23 := am A230
          clear A230
          by_cases c24 : t350 ≥ 0
          ·rw [if_pos c24] at H
           have c24b0 : decide (0 ≤ t350) = true := decide_eq_true c24
           clear c24
           obtain rfl := oi H
           have hcz25_0 : wc.cell? ⟨gb345, 0, none⟩ = some (.int .i64 ((rd_T42 l0 x3_1).f0)) := (kc BK345.out 0).trans rfl
           have hcz25_1 : wc.cell? ⟨gb345, 1, none⟩ = some (.int .i64 ((rd_T42 l0 x3_1).f1)) := (kc BK345.out 1).trans rfl
           have hfz25_0 := kf BK345.out 0
           have hfz25_1 := kf BK345.out 1
           go_wp2_with (first | (go_at_call 70; (with_reducible refine (spec_l02Index.calls kj6 _ _ l0 (wrap64 (((rd_T42 l0 x3_1).f0) - 1)) (wrap64 (((rd_T42 l0 x3_1).f1) + 1)) t350 _ ?side1 ?side2 A23.out).mono ?_); (case side1 => repeat (first | exact (Kd.C_below HR0.out HB.out) | (with_reducible refine Kd.C_alloc ?_ _) | (with_reducible refine Kd.C_drewN ?_ _) | (with_reducible refine Kd.C_drew ?_))); (case side2 => exact HC0.out); rintro e w26 ⟨rfl, hb⟩; have n0_ := am (k4 (g := gb345) (o := .cells #[.int .i64 ((rd_T42 l0 x3_1).f0), .int .i64 ((rd_T42 l0 x3_1).f1)] 42 (0, 0)) (by (with_reducible repeat (first | refine k2 ?_ _ | refine k3 ?_ | refine k1 ?_ _)); exact BK345.out) hb); have n1_ := am (b6 (by repeat (first | (with_reducible first | exact HB.out | apply b1 | apply b2 | apply b3 | refine b4 ?_ GE345.out) | exact HB.out)) hb); clear BK345; clear HB; have BK345 := n0_; have HB := n1_; clear n0_ n1_; (try clear hb); (try clear hb2); (try clear hk); (try clear hi)))
           go_ret
           exact ⟨by first | rfl | (simp [errW_none, errW_some] <;> rfl) | (simp [*, errW_none, errW_some] <;> rfl), by repeat (first | (with_reducible first | exact HB.out | apply b1 | apply b2 | apply b3 | refine b4 ?_ GE345.out) | exact HB.out)⟩
          ·rw [if_neg c24] at H
           have c24b0 : decide (0 ≤ t350) = false := decide_eq_false c24
           clear c24
           have H' := am H
           clear H
           have hcz27_0 : wc.cell? ⟨gb345, 0, none⟩ = some (.int .i64 ((rd_T42 l0 x3_1).f0)) := (kc BK345.out 0).trans rfl
           have hcz27_1 : wc.cell? ⟨gb345, 1, none⟩ = some (.int .i64 ((rd_T42 l0 x3_1).f1)) := (kc BK345.out 1).trans rfl
           have hfz27_0 := kf BK345.out 0
           have hfz27_1 := kf BK345.out 1
           go_wp2_with (first | (go_at_call 70; (with_reducible refine (spec_l02Index.calls kj6 _ _ l0 (wrap64 (((rd_T42 l0 x3_1).f0) - 1)) (wrap64 (((rd_T42 l0 x3_1).f1) + 1)) t350 _ ?side1 ?side2 A23.out).mono ?_); (case side1 => repeat (first | exact (Kd.C_below HR0.out HB.out) | (with_reducible refine Kd.C_alloc ?_ _) | (with_reducible refine Kd.C_drewN ?_ _) | (with_reducible refine Kd.C_drew ?_))); (case side2 => exact HC0.out); rintro e w28 ⟨rfl, hb⟩; have n0_ := am (k4 (g := gb345) (o := .cells #[.int .i64 ((rd_T42 l0 x3_1).f0), .int .i64 ((rd_T42 l0 x3_1).f1)] 42 (0, 0)) (by (with_reducible repeat (first | refine k2 ?_ _ | refine k3 ?_ | refine k1 ?_ _)); exact BK345.out) hb); have n1_ := am (b6 (by repeat (first | (with_reducible first | exact HB.out | apply b1 | apply b2 | apply b3 | refine b4 ?_ GE345.out) | exact HB.out)) hb); clear BK345; clear HB; have BK345 := n0_; have HB := n1_; clear n0_ n1_; (try clear hb); (try clear hb2); (try clear hk); (try clear hi)))
           go_roundg kj6
           case measure => have := HK1.out; have := HJ6.out; omega
           case rel => exact ⟨(wrap64 (x3_1 + 1)), (by first | rfl | (simp; done) | (simp [*]; done)), H', ⟨by have := HK1.out; have := HJ6.out; omega⟩, ⟨by repeat (first | (with_reducible first | exact HB.out | apply b1 | apply b2 | apply b3 | refine b4 ?_ GE345.out) | exact HB.out)⟩⟩
    ·rw [if_neg c3] at H
     exact absurd H (by simp)
   ·rw [if_neg c2] at H
    have c2b0 : decide (x3_1 < (l0.length : Int)) = false := decide_eq_false c2
    clear c2
    obtain rfl := oi H
    go_wp2
    go_ret
    exact ⟨by first | rfl | (simp [errW_none, errW_some] <;> rfl) | (simp [*, errW_none, errW_some] <;> rfl), by repeat (first | (with_reducible first | exact HB.out | apply b1 | apply b2 | apply b3) | exact HB.out)⟩

/-! ### spec_l04Size: function 83 -/
def spec_l04Size.l0 : Nat → List (S42) → Int → Int → Int → Int → Int → Option (Int × Int)
 | 0, _, _, _, _, _, _ => none
 | k + 1, x0, x4, x5, x6, x7, x8 => if x8 < (x0.length : Int) then (if 0 ≤ x8 then (spec_l04Size.l0 k x0 x4 x5 (mx x6 (wrap64 ((wrap64 (((rd_T42 x0 x8).f0) - x4)) + 1))) (mx x7 (wrap64 ((wrap64 (((rd_T42 x0 x8).f1) - x5)) + 1))) (wrap64 (x8 + 1))) else (none)) else (some (x6, x7))
def spec_l04Size.f (k : Nat) (l0 : List (S42)) : Option (Int × Int) := (spec_l02Least.f k l0).bind fun bt351 => (spec_l04Size.l0 k l0 bt351.1 bt351.2 0 0 0)
theorem spec_l04Size.mono_l : ∀ k, (∀ y0 y1 y2 y3 y4 y5, LeO (spec_l04Size.l0 k y0 y1 y2 y3 y4 y5) (spec_l04Size.l0 (k + 1) y0 y1 y2 y3 y4 y5))
 | 0 => fun _ _ _ _ _ _ r h => by simp [spec_l04Size.l0] at h
 | k + 1 => by
  have ih0 := spec_l04Size.mono_l k
  ·intro y0 y1 y2 y3 y4 y5
   unfold spec_l04Size.l0
   repeat' first
   | (with_reducible exact ih0 _ _ _ _ _ _)
   | (with_reducible exact spec_l02Least.mono _ _)
   | (with_reducible exact LeO.refl _)
   | (with_reducible exact LeO.none _)
   | (with_reducible refine LeO.ite ?_ ?_)
   | (with_reducible refine LeO.bind ?_ (fun _ => ?_))
   | exact ih0 _ _ _ _ _ _
   | exact spec_l02Least.mono _ _
   | exact LeO.none _
   | refine LeO.ite ?_ ?_
   | refine LeO.bind ?_ (fun _ => ?_)
theorem spec_l04Size.mono : ∀ a0 k, LeO (spec_l04Size.f k a0) (spec_l04Size.f (k + 1) a0) := by
 intro a0 k
 have ih0 := spec_l04Size.mono_l k
 unfold spec_l04Size.f
 repeat' first
   | (with_reducible exact ih0 _ _ _ _ _ _)
   | (with_reducible exact spec_l02Least.mono _ _)
   | (with_reducible exact LeO.refl _)
   | (with_reducible exact LeO.none _)
   | (with_reducible refine LeO.ite ?_ ?_)
   | (with_reducible refine LeO.bind ?_ (fun _ => ?_))
   | exact ih0 _ _ _ _ _ _
   | exact spec_l02Least.mono _ _
   | exact LeO.none _
   | refine LeO.ite ?_ ?_
   | refine LeO.bind ?_ (fun _ => ?_)
set_option maxHeartbeats 8000000 in
set_option maxRecDepth 100000 in
theorem spec_l04Size.calls (k : Nat) (A0 : Option Addr) (c0 : Nat) (l0 : List (S42)) (r1 : Int) (r2 : Int) (w : World) (hr0 : Kd.C k42 w A0 l0.length l0) (hc0 : l0.length ≤ c0) (h : spec_l04Size.f k l0 = some (r1, r2)) :
  Calls Tryd.prog 83 #[.slice A0 l0.length c0] w fun e w' => e = .returned (.tuple #[.int .i64 r1, .int .i64 r2]) ∧ Below w.heap.size w w' := by
 have HR0 := am hr0
 have HC0 := am hc0
 clear hr0 hc0
 have HB := am (Below.refl w.heap.size w)
 have H : ((spec_l02Least.f k l0).bind fun bt351 => (spec_l04Size.l0 k l0 bt351.1 bt351.2 0 0 0)) = some (r1, r2) := h
 clear h
 replace H := ob H
 obtain ⟨⟨t351, t352⟩, A20, H⟩ := H
 replace H : (spec_l04Size.l0 k l0 t351 t352 0 0 0) = some (r1, r2) := H
 have A2 := am A20
 clear A20
 have H' := am H
 clear H
 go_enter Tryd.func83, Tryd.ntmps83
 go_wp2_with (first | ((with_reducible refine gate_callee (f := 78) rfl ?_); refine goesL_ (some 11) rfl rfl Tryd.func78 (by kernel_rfl) rfl #[.slice A0 l0.length c0] rfl (by (try simp only [List.map_toArray, List.map_cons, List.map_nil]); first | done | rfl | (simp only [List.length_drop, List.length_take]; rfl)) ?_; (with_reducible refine (spec_l02Least.calls k _ _ l0 t351 t352 _ ?side1 ?side2 A2.out).mono ?_); (case side1 => repeat (first | exact HR0.out | (with_reducible refine Kd.C_alloc ?_ _) | (with_reducible refine Kd.C_drewN ?_ _) | (with_reducible refine Kd.C_drew ?_))); (case side2 => exact HC0.out); rintro e w3 ⟨rfl, hb⟩; refine ⟨_, rfl, ?_⟩; have n0_ := am (b6 (by repeat (first | (with_reducible first | exact HB.out | apply b1 | apply b2 | apply b3) | exact HB.out)) hb); clear HB; have HB := n0_; clear n0_; (try clear hb); (try clear hb2); (try clear hk); (try clear hi)))
 go_loopg [6, 7, 8] k (fun kq v6 v7 v8 w' => ∃ (x6_1 : Int) (x7_1 : Int) (x8_1 : Int), v6 = .int .i64 x6_1 ∧ v7 = .int .i64 x7_1 ∧ v8 = .int .i64 x8_1 ∧ Aside0 (spec_l04Size.l0 kq l0 t351 t352 x6_1 x7_1 x8_1 = some (r1, r2)) ∧ Aside0 (kq ≤ k) ∧ Aside0 (Below w.heap.size w w'))
 case atStart => exact ⟨(0), (0), (0), (by first | rfl | (simp; done) | (simp [*]; done)), (by first | rfl | (simp; done) | (simp [*]; done)), (by first | rfl | (simp; done) | (simp [*]; done)), H', ⟨Nat.le_refl _⟩, ⟨by repeat (first | (with_reducible first | exact HB.out | apply b1 | apply b2 | apply b3) | exact HB.out)⟩⟩
 case round =>
  clear H'
  try clear p2
  obtain ⟨x6_1, x7_1, x8_1, rfl, rfl, rfl, HA, HK1, HB⟩ := hrel
  cases gk with
  | zero => exact absurd HA.out (by simp [spec_l04Size.l0])
  | succ k1 =>
   have H := HA.out
   clear HA
   simp only [spec_l04Size.l0] at H
   by_cases c4 : x8_1 < (l0.length : Int)
   ·rw [if_pos c4] at H
    have c4b0 : decide (x8_1 < (l0.length : Int)) = true := decide_eq_true c4
    clear c4
    by_cases c5 : 0 ≤ x8_1
    ·rw [if_pos c5] at H
     have c5b0 : decide (0 ≤ x8_1) = true := decide_eq_true c5
     clear c5
     obtain ⟨ji6, hji6⟩ : ∃ j_ : Int, (mx x6_1 (wrap64 ((wrap64 (((rd_T42 l0 x8_1).f0) - t351)) + 1))) = j_ := ⟨_, rfl⟩
     replace H : (spec_l04Size.l0 k1 l0 t351 t352 ji6 (mx x7_1 (wrap64 ((wrap64 (((rd_T42 l0 x8_1).f1) - t352)) + 1))) (wrap64 (x8_1 + 1))) = some (r1, r2) := by first | (rw [hji6] at H; exact H) | (simp only [hji6] at H ⊢; exact H)
     have hji6_ : (if x6_1 < (wrap64 ((wrap64 (((rd_T42 l0 x8_1).f0) - t351)) + 1)) then (wrap64 ((wrap64 (((rd_T42 l0 x8_1).f0) - t351)) + 1)) else x6_1) = ji6 := hji6
     obtain ⟨ji7, hji7⟩ : ∃ j_ : Int, (mx x7_1 (wrap64 ((wrap64 (((rd_T42 l0 x8_1).f1) - t352)) + 1))) = j_ := ⟨_, rfl⟩
     replace H : (spec_l04Size.l0 k1 l0 t351 t352 ji6 ji7 (wrap64 (x8_1 + 1))) = some (r1, r2) := by first | (rw [hji7] at H; exact H) | (simp only [hji7] at H ⊢; exact H)
     have hji7_ : (if x7_1 < (wrap64 ((wrap64 (((rd_T42 l0 x8_1).f1) - t352)) + 1)) then (wrap64 ((wrap64 (((rd_T42 l0 x8_1).f1) - t352)) + 1)) else x7_1) = ji7 := hji7
     have H' := am H
     clear H
     have p353 : 0 ≤ (x8_1 : Int) := of_decide_eq_true (by first | (with_reducible assumption) | assumption)
     have q353 : x8_1 < (l0.length : Int) := of_decide_eq_true (by first | (with_reducible assumption) | assumption)
     obtain ⟨ad353, e353, hx353_0, hx353_1⟩ := at_T42 HR0.out x8_1 p353 q353
     cases e353
     replace hx353_0 := pc HB.out hx353_0
     replace hx353_1 := pc HB.out hx353_1
     replace p353 := eq_true p353
     replace q353 := eq_true q353
     have p354 : 0 ≤ (x8_1 : Int) := of_decide_eq_true (by first | (with_reducible assumption) | assumption)
     have q354 : x8_1 < (l0.length : Int) := of_decide_eq_true (by first | (with_reducible assumption) | assumption)
     obtain ⟨ad354, e354, hx354_0, hx354_1⟩ := at_T42 HR0.out x8_1 p354 q354
     obtain rfl : ad353 = ad354 := (by injection e354)
     replace hx354_0 := pc HB.out hx354_0
     replace hx354_1 := pc HB.out hx354_1
     replace p354 := eq_true p354
     replace q354 := eq_true q354
     go_wp2
     go_roundg k1
     case measure => have := HK1.out; omega
     case rel => exact ⟨(ji6), (ji7), (wrap64 (x8_1 + 1)), (by first | rfl | (simp; done) | (simp only [← hji6] <;> (first | rfl | simp)) | (simp [*]; done)), (by first | rfl | (simp; done) | (simp only [← hji7] <;> (first | rfl | simp)) | (simp [*]; done)), (by first | rfl | (simp; done) | (simp [*]; done)), H', ⟨by have := HK1.out; omega⟩, ⟨by repeat (first | (with_reducible first | exact HB.out | apply b1 | apply b2 | apply b3) | exact HB.out)⟩⟩
    ·rw [if_neg c5] at H
     exact absurd H (by simp)
   ·rw [if_neg c4] at H
    have c4b0 : decide (x8_1 < (l0.length : Int)) = false := decide_eq_false c4
    clear c4
    simp only [Option.some.injEq, Prod.mk.injEq] at H
    obtain ⟨rfl, rfl⟩ := H
    go_wp2
    go_ret2
    exact ⟨by first | rfl | (simp [errW_none, errW_some] <;> rfl) | (simp [*, errW_none, errW_some] <;> rfl), by repeat (first | (with_reducible first | exact HB.out | apply b1 | apply b2 | apply b3) | exact HB.out)⟩

end Go.Proofs.YtcgnnfaemjjljaaDoor.Q
