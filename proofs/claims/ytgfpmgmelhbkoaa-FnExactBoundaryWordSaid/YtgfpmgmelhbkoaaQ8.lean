/- Written by a program of this session (wip/tools/pp.py) out of the translation, with the kit's printer. -/
import Derived.Test.YtgfpmgmelhbkoaaQ0
import Derived.Test.YtgfpmgmelhbkoaaQ4
import Derived.Test.YtgfpmgmelhbkoaaQ6
namespace Go.Proofs.Ytgfpmgmelhbkoaa.Q
open Go.RowKit Go.Proofs.YtgfpmgmelhbkoaaW.PrintWords Go.Proofs.YtgfpmgmelhbkoaaW.PrintLast Go.Proofs.YtgfpmgmelhbkoaaW.PrintMore
attribute [local go_sem] max2_int min2_int max_two min_two max_three min_three max_four min_four
set_option linter.unusedVariables false
set_option linter.unusedSimpArgs false

/-! ### spec_l23Touch: function 14 -/
mutual
def spec_l23Touch.l0 : Nat → List (S35) → Int → Option (Bool)
 | 0, _, _ => none
 | k + 1, x0, x3 => if x3 < (x0.length : Int) then (if 0 ≤ x3 then ((spec_l02Index.f k x0 (wrap64 (((rd_T35 x0 x3).f0) + 1)) ((rd_T35 x0 x3).f1)).bind fun t174 => ((spec_l02Index.f k x0 (wrap64 (((rd_T35 x0 x3).f0) - 1)) ((rd_T35 x0 x3).f1)).bind fun t175 => ((spec_l02Index.f k x0 ((rd_T35 x0 x3).f0) (wrap64 (((rd_T35 x0 x3).f1) + 1))).bind fun t176 => (if t174 ≥ 0 then (spec_l23Touch.j1 k x0 x3 (decide (t175 ≥ 0)) (decide (t176 ≥ 0)) false ((rd_T35 x0 x3).f0) ((rd_T35 x0 x3).f1)) else (if t176 ≥ 0 then (spec_l23Touch.j1 k x0 x3 (decide (t175 ≥ 0)) (decide (t176 ≥ 0)) false ((rd_T35 x0 x3).f0) ((rd_T35 x0 x3).f1)) else ((spec_l02Index.f k x0 (wrap64 (((rd_T35 x0 x3).f0) + 1)) (wrap64 (((rd_T35 x0 x3).f1) + 1))).bind fun t177 => (spec_l23Touch.j1 k x0 x3 (decide (t175 ≥ 0)) (decide (t176 ≥ 0)) (decide (t177 ≥ 0)) ((rd_T35 x0 x3).f0) ((rd_T35 x0 x3).f1)))))))) else (none)) else (some false)
def spec_l23Touch.j1 : Nat → List (S35) → Int → Bool → Bool → Bool → Int → Int → Option (Bool)
 | 0, _, _, _, _, _, _, _ => none
 | k + 1, x0, x3, x6, x7, x62, x174000, x174001 => if x62 = true then (some true) else (if x6 = true then (spec_l23Touch.l0 k x0 (wrap64 (x3 + 1))) else (if x7 = true then (spec_l23Touch.l0 k x0 (wrap64 (x3 + 1))) else ((spec_l02Index.f k x0 (wrap64 (x174000 - 1)) (wrap64 (x174001 + 1))).bind fun t178 => (if t178 ≥ 0 then (some true) else (spec_l23Touch.l0 k x0 (wrap64 (x3 + 1)))))))
end
def spec_l23Touch.f (k : Nat) (l0 : List (S35)) : Option (Bool) := spec_l23Touch.l0 k l0 0
theorem spec_l23Touch.mono_l : ∀ k, (∀ y0 y1, LeO (spec_l23Touch.l0 k y0 y1) (spec_l23Touch.l0 (k + 1) y0 y1)) ∧ (∀ y0 y1 y2 y3 y4 y5 y6, LeO (spec_l23Touch.j1 k y0 y1 y2 y3 y4 y5 y6) (spec_l23Touch.j1 (k + 1) y0 y1 y2 y3 y4 y5 y6))
 | 0 => ⟨fun _ _ r h => by simp [spec_l23Touch.l0] at h, fun _ _ _ _ _ _ _ r h => by simp [spec_l23Touch.j1] at h⟩
 | k + 1 => by
  obtain ⟨ih0, ih1⟩ := spec_l23Touch.mono_l k
  refine ⟨?_, ?_⟩
  ·intro y0 y1
   unfold spec_l23Touch.l0
   repeat' first
   | (with_reducible exact ih0 _ _)
   | (with_reducible exact ih1 _ _ _ _ _ _ _)
   | (with_reducible exact spec_l02Index.mono _ _ _ _)
   | (with_reducible exact LeO.refl _)
   | (with_reducible exact LeO.none _)
   | (with_reducible refine LeO.ite ?_ ?_)
   | (with_reducible refine LeO.bind ?_ (fun _ => ?_))
   | exact ih0 _ _
   | exact ih1 _ _ _ _ _ _ _
   | exact spec_l02Index.mono _ _ _ _
   | exact LeO.none _
   | refine LeO.ite ?_ ?_
   | refine LeO.bind ?_ (fun _ => ?_)
  ·intro y0 y1 y2 y3 y4 y5 y6
   unfold spec_l23Touch.j1
   repeat' first
   | (with_reducible exact ih0 _ _)
   | (with_reducible exact ih1 _ _ _ _ _ _ _)
   | (with_reducible exact spec_l02Index.mono _ _ _ _)
   | (with_reducible exact LeO.refl _)
   | (with_reducible exact LeO.none _)
   | (with_reducible refine LeO.ite ?_ ?_)
   | (with_reducible refine LeO.bind ?_ (fun _ => ?_))
   | exact ih0 _ _
   | exact ih1 _ _ _ _ _ _ _
   | exact spec_l02Index.mono _ _ _ _
   | exact LeO.none _
   | refine LeO.ite ?_ ?_
   | refine LeO.bind ?_ (fun _ => ?_)
theorem spec_l23Touch.mono : ∀ a0 k, LeO (spec_l23Touch.f k a0) (spec_l23Touch.f (k + 1) a0) := by
 intro a0 k
 obtain ⟨ih0, ih1⟩ := spec_l23Touch.mono_l k
 unfold spec_l23Touch.f
 repeat' first
   | (with_reducible exact ih0 _ _)
   | (with_reducible exact ih1 _ _ _ _ _ _ _)
   | (with_reducible exact spec_l02Index.mono _ _ _ _)
   | (with_reducible exact LeO.refl _)
   | (with_reducible exact LeO.none _)
   | (with_reducible refine LeO.ite ?_ ?_)
   | (with_reducible refine LeO.bind ?_ (fun _ => ?_))
   | exact ih0 _ _
   | exact ih1 _ _ _ _ _ _ _
   | exact spec_l02Index.mono _ _ _ _
   | exact LeO.none _
   | refine LeO.ite ?_ ?_
   | refine LeO.bind ?_ (fun _ => ?_)
set_option maxHeartbeats 8000000 in
set_option maxRecDepth 100000 in
theorem spec_l23Touch.calls (k : Nat) (A0 : Option Addr) (c0 : Nat) (l0 : List (S35)) (r : Bool) (w : World) (hr0 : Kd.C k35 w A0 l0.length l0) (hc0 : l0.length ≤ c0) (h : spec_l23Touch.f k l0 = some r) :
  Calls Try.prog 14 #[.slice A0 l0.length c0] w fun e w' => e = .returned (.bool r) ∧ Below w.heap.size w w' := by
 have hu35 := Try.underlying35
 have HR0 := am hr0
 have HC0 := am hc0
 clear hr0 hc0
 have HB := am (Below.refl w.heap.size w)
 have H : (spec_l23Touch.l0 k l0 0) = some r := h
 clear h
 have H' := am H
 clear H
 go_enter Try.func14, Try.ntmps14
 go_wp2
 go_loopg [3] k (fun kq v3 w' => ∃ (x3_1 : Int), v3 = .int .i64 x3_1 ∧ Aside0 (spec_l23Touch.l0 kq l0 x3_1 = some r) ∧ Aside0 (kq ≤ k) ∧ Aside0 (Below w.heap.size w w'))
 case atStart => exact ⟨(0), (by first | rfl | (simp; done) | (simp [*]; done)), H', ⟨Nat.le_refl _⟩, ⟨by repeat (first | (with_reducible first | exact HB.out | apply Bb1 | apply Bb2 | apply Bb3) | exact HB.out)⟩⟩
 case round =>
  clear H'
  try clear c1
  obtain ⟨x3_1, rfl, HA, HK1, HB⟩ := hrel
  cases gk with
  | zero => exact absurd HA.out (by simp [spec_l23Touch.l0])
  | succ k1 =>
   have H := HA.out
   clear HA
   simp only [spec_l23Touch.l0] at H
   by_cases c2 : x3_1 < (l0.length : Int)
   ·rw [if_pos c2] at H
    have c2b0 : decide (x3_1 < (l0.length : Int)) = true := decide_eq_true c2
    clear c2
    by_cases c3 : 0 ≤ x3_1
    ·rw [if_pos c3] at H
     have c3b0 : decide (0 ≤ x3_1) = true := decide_eq_true c3
     clear c3
     replace H := ob H
     obtain ⟨t174, A40, H⟩ := H
     replace H : ((spec_l02Index.f k1 l0 (wrap64 (((rd_T35 l0 x3_1).f0) - 1)) ((rd_T35 l0 x3_1).f1)).bind fun t175 => ((spec_l02Index.f k1 l0 ((rd_T35 l0 x3_1).f0) (wrap64 (((rd_T35 l0 x3_1).f1) + 1))).bind fun t176 => (if t174 ≥ 0 then (spec_l23Touch.j1 k1 l0 x3_1 (decide (t175 ≥ 0)) (decide (t176 ≥ 0)) false ((rd_T35 l0 x3_1).f0) ((rd_T35 l0 x3_1).f1)) else (if t176 ≥ 0 then (spec_l23Touch.j1 k1 l0 x3_1 (decide (t175 ≥ 0)) (decide (t176 ≥ 0)) false ((rd_T35 l0 x3_1).f0) ((rd_T35 l0 x3_1).f1)) else ((spec_l02Index.f k1 l0 (wrap64 (((rd_T35 l0 x3_1).f0) + 1)) (wrap64 (((rd_T35 l0 x3_1).f1) + 1))).bind fun t177 => (spec_l23Touch.j1 k1 l0 x3_1 (decide (t175 ≥ 0)) (decide (t176 ≥ 0)) (decide (t177 ≥ 0)) ((rd_T35 l0 x3_1).f0) ((rd_T35 l0 x3_1).f1))))))) = some r := H
     have A4 := am A40
     clear A40
     replace H := ob H
     obtain ⟨t175, A50, H⟩ := H
     replace H : ((spec_l02Index.f k1 l0 ((rd_T35 l0 x3_1).f0) (wrap64 (((rd_T35 l0 x3_1).f1) + 1))).bind fun t176 => (if t174 ≥ 0 then (spec_l23Touch.j1 k1 l0 x3_1 (decide (t175 ≥ 0)) (decide (t176 ≥ 0)) false ((rd_T35 l0 x3_1).f0) ((rd_T35 l0 x3_1).f1)) else (if t176 ≥ 0 then (spec_l23Touch.j1 k1 l0 x3_1 (decide (t175 ≥ 0)) (decide (t176 ≥ 0)) false ((rd_T35 l0 x3_1).f0) ((rd_T35 l0 x3_1).f1)) else ((spec_l02Index.f k1 l0 (wrap64 (((rd_T35 l0 x3_1).f0) + 1)) (wrap64 (((rd_T35 l0 x3_1).f1) + 1))).bind fun t177 => (spec_l23Touch.j1 k1 l0 x3_1 (decide (t175 ≥ 0)) (decide (t176 ≥ 0)) (decide (t177 ≥ 0)) ((rd_T35 l0 x3_1).f0) ((rd_T35 l0 x3_1).f1)))))) = some r := H
     have A5 := am A50
     clear A50
     replace H := ob H
     obtain ⟨t176, A60, H⟩ := H
     replace H : (if t174 ≥ 0 then (spec_l23Touch.j1 k1 l0 x3_1 (decide (t175 ≥ 0)) (decide (t176 ≥ 0)) false ((rd_T35 l0 x3_1).f0) ((rd_T35 l0 x3_1).f1)) else (if t176 ≥ 0 then (spec_l23Touch.j1 k1 l0 x3_1 (decide (t175 ≥ 0)) (decide (t176 ≥ 0)) false ((rd_T35 l0 x3_1).f0) ((rd_T35 l0 x3_1).f1)) else ((spec_l02Index.f k1 l0 (wrap64 (((rd_T35 l0 x3_1).f0) + 1)) (wrap64 (((rd_T35 l0 x3_1).f1) + 1))).bind fun t177 => (spec_l23Touch.j1 k1 l0 x3_1 (decide (t175 ≥ 0)) (decide (t176 ≥ 0)) (decide (t177 ≥ 0)) ((rd_T35 l0 x3_1).f0) ((rd_T35 l0 x3_1).f1))))) = some r := H
     have A6 := am A60
     clear A60
     have HC7 := am H
     clear H
     have p172 : 0 ≤ (x3_1 : Int) := of_decide_eq_true (by first | (with_reducible assumption) | assumption)
     have q172 : x3_1 < (l0.length : Int) := of_decide_eq_true (by first | (with_reducible assumption) | assumption)
     obtain ⟨ad172, e172, hx172_0, hx172_1⟩ := at_T35 HR0.out x3_1 p172 q172
     cases e172
     replace hx172_0 := pc HB.out hx172_0
     replace hx172_1 := pc HB.out hx172_1
     replace p172 := eq_true p172
     replace q172 := eq_true q172
     go_upto_region 8 with (first | ((with_reducible refine gate_dst (N := 4) rfl ?_); refine box_event ?hg (N := 4) ?hd (cs := #[.int .i64 0, .int .i64 0]) (t := 35) ?hr ?_; (case hd => rfl); (case hg => rfl); (case hr => first | (go_simp; done) | (go_simp; rfl)); intro gb173 hg w8 hbox hb; have n0_ := am (Bb6 (by repeat (first | (with_reducible first | exact HB.out | apply Bb1 | apply Bb2 | apply Bb3) | exact HB.out)) hb); have n1_ := am (hbox); have n2_ := am ((by rw [hg]; exact (Bb5 (by repeat (first | (with_reducible first | exact HB.out | apply Bb1 | apply Bb2 | apply Bb3) | exact HB.out))) : w.heap.size ≤ gb173)); have n3_ := n2_; clear HB; have HB := n0_; have BK173 := n1_; have GW173 := n2_; have GE173 := n3_; clear n0_ n1_ n2_ n3_; clear hb hbox hg; have hcz9_0 : w8.cell? ⟨gb173, 0, none⟩ = some (.int .i64 0) := (kc BK173.out 0).trans rfl; have hcz9_1 : w8.cell? ⟨gb173, 1, none⟩ = some (.int .i64 0) := (kc BK173.out 1).trans rfl; have hfz9_0 := kf BK173.out 0; have hfz9_1 := kf BK173.out 1) | ((with_reducible refine gate_callee (f := 27) rfl ?_); refine goesL_ (some 25) rfl rfl Try.func27 (by kernel_rfl) rfl #[.slice (some ad172) l0.length c0, .agg #[.int .i64 (wrap64 (((rd_T35 l0 x3_1).f0) + 1)), .int .i64 ((rd_T35 l0 x3_1).f1)]] rfl (by (try simp only [List.map_toArray, List.map_cons, List.map_nil]); first | done | rfl | (simp only [List.length_drop, List.length_take]; rfl)) ?_; (with_reducible refine (spec_l02Index.calls k1 _ _ l0 (wrap64 (((rd_T35 l0 x3_1).f0) + 1)) ((rd_T35 l0 x3_1).f1) t174 _ ?side1 ?side2 A4.out).mono ?_); (case side1 => exact Kd.C_below HR0.out (by repeat (first | (with_reducible first | exact HB.out | apply Bb1 | apply Bb2 | apply Bb3 | refine Bb4 ?_ GE173.out) | exact HB.out))); (case side2 => exact HC0.out); rintro e w10 ⟨rfl, hb⟩; refine ⟨_, rfl, ?_⟩; have n0_ := am (Bk4 (g := gb173) (o := .cells #[.int .i64 ((rd_T35 l0 x3_1).f0), .int .i64 ((rd_T35 l0 x3_1).f1)] 35 (0, 0)) (by (with_reducible repeat (first | refine Bk2 ?_ _ | refine Bk3 ?_ | refine Bk1 ?_ _)); refine blk_put (cs := #[.int .i64 ((rd_T35 l0 x3_1).f0), .int .i64 0]) ?_ 1 _ rfl; (with_reducible repeat (first | refine Bk2 ?_ _ | refine Bk3 ?_ | refine Bk1 ?_ _)); refine blk_put (cs := #[.int .i64 0, .int .i64 0]) ?_ 0 _ rfl; (with_reducible repeat (first | refine Bk2 ?_ _ | refine Bk3 ?_ | refine Bk1 ?_ _)); exact BK173.out) hb); have n1_ := am (Bb6 (by repeat (first | (with_reducible first | exact HB.out | apply Bb1 | apply Bb2 | apply Bb3 | refine Bb4 ?_ GE173.out) | exact HB.out)) hb); clear BK173; clear HB; have BK173 := n0_; have HB := n1_; clear n0_ n1_; (try clear hb); (try clear hb2); (try clear hk); (try clear hi); have hcz11_0 : w10.cell? ⟨gb173, 0, none⟩ = some (.int .i64 ((rd_T35 l0 x3_1).f0)) := (kc BK173.out 0).trans rfl; have hcz11_1 : w10.cell? ⟨gb173, 1, none⟩ = some (.int .i64 ((rd_T35 l0 x3_1).f1)) := (kc BK173.out 1).trans rfl; have hfz11_0 := kf BK173.out 0; have hfz11_1 := kf BK173.out 1) | ((with_reducible refine gate_callee (f := 27) rfl ?_); refine goesL_ (some 34) rfl rfl Try.func27 (by kernel_rfl) rfl #[.slice (some ad172) l0.length c0, .agg #[.int .i64 (wrap64 (((rd_T35 l0 x3_1).f0) - 1)), .int .i64 ((rd_T35 l0 x3_1).f1)]] rfl (by (try simp only [List.map_toArray, List.map_cons, List.map_nil]); first | done | rfl | (simp only [List.length_drop, List.length_take]; rfl)) ?_; (with_reducible refine (spec_l02Index.calls k1 _ _ l0 (wrap64 (((rd_T35 l0 x3_1).f0) - 1)) ((rd_T35 l0 x3_1).f1) t175 _ ?side1 ?side2 A5.out).mono ?_); (case side1 => repeat (first | exact (Kd.C_below HR0.out HB.out) | (with_reducible refine Kd.C_alloc ?_ _) | (with_reducible refine Kd.C_drewN ?_ _) | (with_reducible refine Kd.C_drew ?_))); (case side2 => exact HC0.out); rintro e w12 ⟨rfl, hb⟩; refine ⟨_, rfl, ?_⟩; have n0_ := am (Bk4 (g := gb173) (o := .cells #[.int .i64 ((rd_T35 l0 x3_1).f0), .int .i64 ((rd_T35 l0 x3_1).f1)] 35 (0, 0)) (by (with_reducible repeat (first | refine Bk2 ?_ _ | refine Bk3 ?_ | refine Bk1 ?_ _)); exact BK173.out) hb); have n1_ := am (Bb6 (by repeat (first | (with_reducible first | exact HB.out | apply Bb1 | apply Bb2 | apply Bb3 | refine Bb4 ?_ GE173.out) | exact HB.out)) hb); clear BK173; clear HB; have BK173 := n0_; have HB := n1_; clear n0_ n1_; (try clear hb); (try clear hb2); (try clear hk); (try clear hi); have hcz13_0 : w12.cell? ⟨gb173, 0, none⟩ = some (.int .i64 ((rd_T35 l0 x3_1).f0)) := (kc BK173.out 0).trans rfl; have hcz13_1 : w12.cell? ⟨gb173, 1, none⟩ = some (.int .i64 ((rd_T35 l0 x3_1).f1)) := (kc BK173.out 1).trans rfl; have hfz13_0 := kf BK173.out 0; have hfz13_1 := kf BK173.out 1) | ((with_reducible refine gate_callee (f := 27) rfl ?_); refine goesL_ (some 43) rfl rfl Try.func27 (by kernel_rfl) rfl #[.slice (some ad172) l0.length c0, .agg #[.int .i64 ((rd_T35 l0 x3_1).f0), .int .i64 (wrap64 (((rd_T35 l0 x3_1).f1) + 1))]] rfl (by (try simp only [List.map_toArray, List.map_cons, List.map_nil]); first | done | rfl | (simp only [List.length_drop, List.length_take]; rfl)) ?_; (with_reducible refine (spec_l02Index.calls k1 _ _ l0 ((rd_T35 l0 x3_1).f0) (wrap64 (((rd_T35 l0 x3_1).f1) + 1)) t176 _ ?side1 ?side2 A6.out).mono ?_); (case side1 => repeat (first | exact (Kd.C_below HR0.out HB.out) | (with_reducible refine Kd.C_alloc ?_ _) | (with_reducible refine Kd.C_drewN ?_ _) | (with_reducible refine Kd.C_drew ?_))); (case side2 => exact HC0.out); rintro e w14 ⟨rfl, hb⟩; refine ⟨_, rfl, ?_⟩; have n0_ := am (Bk4 (g := gb173) (o := .cells #[.int .i64 ((rd_T35 l0 x3_1).f0), .int .i64 ((rd_T35 l0 x3_1).f1)] 35 (0, 0)) (by (with_reducible repeat (first | refine Bk2 ?_ _ | refine Bk3 ?_ | refine Bk1 ?_ _)); exact BK173.out) hb); have n1_ := am (Bb6 (by repeat (first | (with_reducible first | exact HB.out | apply Bb1 | apply Bb2 | apply Bb3 | refine Bb4 ?_ GE173.out) | exact HB.out)) hb); clear BK173; clear HB; have BK173 := n0_; have HB := n1_; clear n0_ n1_; (try clear hb); (try clear hb2); (try clear hk); (try clear hi)))
     (try simp only [Act.put, sa])
     go_cut [5, 6, 7, 62] (fun v5 v6 v7 v62 wc => ∃ (kq : Nat) (x62_6 : Bool), (v5 = .bool (decide (0 ≤ t174)) ∧ v6 = .bool (decide (0 ≤ t175)) ∧ v7 = .bool (decide (0 ≤ t176))) ∧ v62 = .bool x62_6 ∧ Aside0 (spec_l23Touch.j1 kq l0 x3_1 (decide (t175 ≥ 0)) (decide (t176 ≥ 0)) x62_6 ((rd_T35 l0 x3_1).f0) ((rd_T35 l0 x3_1).f1) = some r) ∧ Aside0 (kq ≤ k1) ∧ Aside0 (wc.heap[gb173]? = some (.cells #[.int .i64 ((rd_T35 l0 x3_1).f0), .int .i64 ((rd_T35 l0 x3_1).f1)] 35 (0, 0))) ∧ Aside0 (Below w.heap.size w wc))
     case first =>
      have H := HC7.out
      clear HC7
      by_cases c15 : t174 ≥ 0
      ·rw [if_pos c15] at H
       have c15b0 : decide (0 ≤ t174) = true := decide_eq_true c15
       clear c15
       (first | rw [c15b0] | (simp only [i64_w, i32_w]; rw [c15b0]) | skip)
       have H' := am H
       clear H
       go_wp2
       go_meet
       case rel => exact ⟨_, (false), (by refine ⟨?_, ?_, ?_⟩ <;> first | rfl | (simp [*]; done)), (by first | rfl | (simp; done) | (simp [*]; done)), H', ⟨by have := HK1.out; first | omega | exact Nat.le_refl _⟩, ⟨by (with_reducible repeat (first | refine Bk2 ?_ _ | refine Bk3 ?_ | refine Bk1 ?_ _)); exact BK173.out⟩, ⟨by repeat (first | (with_reducible first | exact HB.out | apply Bb1 | apply Bb2 | apply Bb3 | refine Bb4 ?_ GE173.out) | exact HB.out)⟩⟩
      ·rw [if_neg c15] at H
       have c15b0 : decide (0 ≤ t174) = false := decide_eq_false c15
       clear c15
       (first | rw [c15b0] | (simp only [i64_w, i32_w]; rw [c15b0]) | skip)
       by_cases c16 : t176 ≥ 0
       ·rw [if_pos c16] at H
        have c16b0 : decide (0 ≤ t176) = true := decide_eq_true c16
        clear c16
        have H' := am H
        clear H
        go_wp2
        go_meet
        case rel => exact ⟨_, (false), (by refine ⟨?_, ?_, ?_⟩ <;> first | rfl | (simp [*]; done)), (by first | rfl | (simp; done) | (simp [*]; done)), H', ⟨by have := HK1.out; first | omega | exact Nat.le_refl _⟩, ⟨by (with_reducible repeat (first | refine Bk2 ?_ _ | refine Bk3 ?_ | refine Bk1 ?_ _)); exact BK173.out⟩, ⟨by repeat (first | (with_reducible first | exact HB.out | apply Bb1 | apply Bb2 | apply Bb3 | refine Bb4 ?_ GE173.out) | exact HB.out)⟩⟩
       ·rw [if_neg c16] at H
        have c16b0 : decide (0 ≤ t176) = false := decide_eq_false c16
        clear c16
        replace H := ob H
        obtain ⟨t177, A170, H⟩ := H
        replace H : (spec_l23Touch.j1 k1 l0 x3_1 (decide (t175 ≥ 0)) (decide (t176 ≥ 0)) (decide (t177 ≥ 0)) ((rd_T35 l0 x3_1).f0) ((rd_T35 l0 x3_1).f1)) = some r := H
        have A17 := am A170
        clear A170
        have H' := am H
        clear H
        have hcz18_0 : w14.cell? ⟨gb173, 0, none⟩ = some (.int .i64 ((rd_T35 l0 x3_1).f0)) := (kc BK173.out 0).trans rfl
        have hcz18_1 : w14.cell? ⟨gb173, 1, none⟩ = some (.int .i64 ((rd_T35 l0 x3_1).f1)) := (kc BK173.out 1).trans rfl
        have hfz18_0 := kf BK173.out 0
        have hfz18_1 := kf BK173.out 1
        go_wp2_with (first | (go_at_call 27; (with_reducible refine (spec_l02Index.calls k1 _ _ l0 (wrap64 (((rd_T35 l0 x3_1).f0) + 1)) (wrap64 (((rd_T35 l0 x3_1).f1) + 1)) t177 _ ?side1 ?side2 A17.out).mono ?_); (case side1 => repeat (first | exact (Kd.C_below HR0.out HB.out) | (with_reducible refine Kd.C_alloc ?_ _) | (with_reducible refine Kd.C_drewN ?_ _) | (with_reducible refine Kd.C_drew ?_))); (case side2 => exact HC0.out); rintro e w19 ⟨rfl, hb⟩; have n0_ := am (Bk4 (g := gb173) (o := .cells #[.int .i64 ((rd_T35 l0 x3_1).f0), .int .i64 ((rd_T35 l0 x3_1).f1)] 35 (0, 0)) (by (with_reducible repeat (first | refine Bk2 ?_ _ | refine Bk3 ?_ | refine Bk1 ?_ _)); exact BK173.out) hb); have n1_ := am (Bb6 (by repeat (first | (with_reducible first | exact HB.out | apply Bb1 | apply Bb2 | apply Bb3 | refine Bb4 ?_ GE173.out) | exact HB.out)) hb); clear BK173; clear HB; have BK173 := n0_; have HB := n1_; clear n0_ n1_; (try clear hb); (try clear hb2); (try clear hk); (try clear hi)))
        go_meet
        case rel => exact ⟨_, (decide (t177 ≥ 0)), (by refine ⟨?_, ?_, ?_⟩ <;> first | rfl | (simp [*]; done)), (by first | rfl | (simp; done) | (simp [*]; done)), H', ⟨by have := HK1.out; first | omega | exact Nat.le_refl _⟩, ⟨by (with_reducible repeat (first | refine Bk2 ?_ _ | refine Bk3 ?_ | refine Bk1 ?_ _)); exact BK173.out⟩, ⟨by repeat (first | (with_reducible first | exact HB.out | apply Bb1 | apply Bb2 | apply Bb3 | refine Bb4 ?_ GE173.out) | exact HB.out)⟩⟩
     case rest =>
      clear HC7
      try clear c1
      try clear p1
      try clear q1
      try clear hx1
      try clear c2
      try clear c2b0
      try clear p2
      try clear c3
      try clear c3b0
      try clear p6
      try clear c14
      try clear c15
      try clear c15b0
      try clear c16
      try clear c16b0
      try clear p17
      try clear q17
      try clear hx17
      try clear hcz11_0
      try clear hcz11_1
      try clear hcz13_0
      try clear hcz13_1
      try clear hcz18_0
      try clear hcz18_1
      try clear hcz9_0
      try clear hcz9_1
      try clear hfz11_0
      try clear hfz11_1
      try clear hfz13_0
      try clear hfz13_1
      try clear hfz18_0
      try clear hfz18_1
      try clear hfz9_0
      try clear hfz9_1
      try clear hx172_0
      try clear hx172_1
      try clear p172
      try clear q172
      obtain ⟨kq, x62_6, ⟨rfl, rfl, rfl⟩, rfl, HA, HJ6, BK173, HB⟩ := hcut
      cases kq with
      | zero => exact absurd HA.out (by simp [spec_l23Touch.j1])
      | succ kj6 =>
       have H := HA.out
       clear HA
       simp only [spec_l23Touch.j1] at H
       by_cases c20 : x62_6 = true
       ·subst c20
        have H1 : (some true) = some r := by first | (rw [if_pos rfl] at H; exact H) | rfl
        clear H
        have H := H1
        clear H1
        obtain rfl := oi H
        go_wp2
        go_ret
        exact ⟨by first | rfl | (simp [errW_none, errW_some] <;> rfl) | (simp [*, errW_none, errW_some] <;> rfl), by repeat (first | (with_reducible first | exact HB.out | apply Bb1 | apply Bb2 | apply Bb3 | refine Bb4 ?_ GE173.out) | exact HB.out)⟩
       ·replace c20 := ef c20
        subst c20
        have H1 : (if (decide (t175 ≥ 0)) = true then (spec_l23Touch.l0 kj6 l0 (wrap64 (x3_1 + 1))) else (if (decide (t176 ≥ 0)) = true then (spec_l23Touch.l0 kj6 l0 (wrap64 (x3_1 + 1))) else ((spec_l02Index.f kj6 l0 (wrap64 (((rd_T35 l0 x3_1).f0) - 1)) (wrap64 (((rd_T35 l0 x3_1).f1) + 1))).bind fun t178 => (if t178 ≥ 0 then (some true) else (spec_l23Touch.l0 kj6 l0 (wrap64 (x3_1 + 1))))))) = some r := by first | (rw [if_neg (show ¬ (false = true) by decide)] at H; exact H) | rfl
        clear H
        have H := H1
        clear H1
        by_cases c21 : (decide (t175 ≥ 0)) = true
        ·rw [if_pos c21] at H
         have c21b0 : (decide (t175 ≥ 0)) = true := c21
         clear c21
         have H' := am H
         clear H
         go_wp2
         go_roundg kj6
         case measure => have := HK1.out; have := HJ6.out; omega
         case rel => exact ⟨(wrap64 (x3_1 + 1)), (by first | rfl | (simp; done) | (simp [*]; done)), H', ⟨by have := HK1.out; have := HJ6.out; omega⟩, ⟨by repeat (first | (with_reducible first | exact HB.out | apply Bb1 | apply Bb2 | apply Bb3 | refine Bb4 ?_ GE173.out) | exact HB.out)⟩⟩
        ·rw [if_neg c21] at H
         have c21b0 : (decide (t175 ≥ 0)) = false := by simpa using c21
         clear c21
         by_cases c22 : (decide (t176 ≥ 0)) = true
         ·rw [if_pos c22] at H
          have c22b0 : (decide (t176 ≥ 0)) = true := c22
          clear c22
          have H' := am H
          clear H
          go_wp2
          go_roundg kj6
          case measure => have := HK1.out; have := HJ6.out; omega
          case rel => exact ⟨(wrap64 (x3_1 + 1)), (by first | rfl | (simp; done) | (simp [*]; done)), H', ⟨by have := HK1.out; have := HJ6.out; omega⟩, ⟨by repeat (first | (with_reducible first | exact HB.out | apply Bb1 | apply Bb2 | apply Bb3 | refine Bb4 ?_ GE173.out) | exact HB.out)⟩⟩
         ·rw [if_neg c22] at H
          have c22b0 : (decide (t176 ≥ 0)) = false := by simpa using c22
          clear c22
          replace H := ob H
          obtain ⟨t178, A230, H⟩ := H
          replace H : (if t178 ≥ 0 then (some true) else (spec_l23Touch.l0 kj6 l0 (wrap64 (x3_1 + 1)))) = some r := H
          have A23 := am A230
          clear A230
          by_cases c24 : t178 ≥ 0
          ·rw [if_pos c24] at H
           have c24b0 : decide (0 ≤ t178) = true := decide_eq_true c24
           clear c24
           obtain rfl := oi H
           have hcz25_0 : wc.cell? ⟨gb173, 0, none⟩ = some (.int .i64 ((rd_T35 l0 x3_1).f0)) := (kc BK173.out 0).trans rfl
           have hcz25_1 : wc.cell? ⟨gb173, 1, none⟩ = some (.int .i64 ((rd_T35 l0 x3_1).f1)) := (kc BK173.out 1).trans rfl
           have hfz25_0 := kf BK173.out 0
           have hfz25_1 := kf BK173.out 1
           go_wp2_with (first | (go_at_call 27; (with_reducible refine (spec_l02Index.calls kj6 _ _ l0 (wrap64 (((rd_T35 l0 x3_1).f0) - 1)) (wrap64 (((rd_T35 l0 x3_1).f1) + 1)) t178 _ ?side1 ?side2 A23.out).mono ?_); (case side1 => repeat (first | exact (Kd.C_below HR0.out HB.out) | (with_reducible refine Kd.C_alloc ?_ _) | (with_reducible refine Kd.C_drewN ?_ _) | (with_reducible refine Kd.C_drew ?_))); (case side2 => exact HC0.out); rintro e w26 ⟨rfl, hb⟩; have n0_ := am (Bk4 (g := gb173) (o := .cells #[.int .i64 ((rd_T35 l0 x3_1).f0), .int .i64 ((rd_T35 l0 x3_1).f1)] 35 (0, 0)) (by (with_reducible repeat (first | refine Bk2 ?_ _ | refine Bk3 ?_ | refine Bk1 ?_ _)); exact BK173.out) hb); have n1_ := am (Bb6 (by repeat (first | (with_reducible first | exact HB.out | apply Bb1 | apply Bb2 | apply Bb3 | refine Bb4 ?_ GE173.out) | exact HB.out)) hb); clear BK173; clear HB; have BK173 := n0_; have HB := n1_; clear n0_ n1_; (try clear hb); (try clear hb2); (try clear hk); (try clear hi)))
           go_ret
           exact ⟨by first | rfl | (simp [errW_none, errW_some] <;> rfl) | (simp [*, errW_none, errW_some] <;> rfl), by repeat (first | (with_reducible first | exact HB.out | apply Bb1 | apply Bb2 | apply Bb3 | refine Bb4 ?_ GE173.out) | exact HB.out)⟩
          ·rw [if_neg c24] at H
           have c24b0 : decide (0 ≤ t178) = false := decide_eq_false c24
           clear c24
           have H' := am H
           clear H
           have hcz27_0 : wc.cell? ⟨gb173, 0, none⟩ = some (.int .i64 ((rd_T35 l0 x3_1).f0)) := (kc BK173.out 0).trans rfl
           have hcz27_1 : wc.cell? ⟨gb173, 1, none⟩ = some (.int .i64 ((rd_T35 l0 x3_1).f1)) := (kc BK173.out 1).trans rfl
           have hfz27_0 := kf BK173.out 0
           have hfz27_1 := kf BK173.out 1
           go_wp2_with (first | (go_at_call 27; (with_reducible refine (spec_l02Index.calls kj6 _ _ l0 (wrap64 (((rd_T35 l0 x3_1).f0) - 1)) (wrap64 (((rd_T35 l0 x3_1).f1) + 1)) t178 _ ?side1 ?side2 A23.out).mono ?_); (case side1 => repeat (first | exact (Kd.C_below HR0.out HB.out) | (with_reducible refine Kd.C_alloc ?_ _) | (with_reducible refine Kd.C_drewN ?_ _) | (with_reducible refine Kd.C_drew ?_))); (case side2 => exact HC0.out); rintro e w28 ⟨rfl, hb⟩; have n0_ := am (Bk4 (g := gb173) (o := .cells #[.int .i64 ((rd_T35 l0 x3_1).f0), .int .i64 ((rd_T35 l0 x3_1).f1)] 35 (0, 0)) (by (with_reducible repeat (first | refine Bk2 ?_ _ | refine Bk3 ?_ | refine Bk1 ?_ _)); exact BK173.out) hb); have n1_ := am (Bb6 (by repeat (first | (with_reducible first | exact HB.out | apply Bb1 | apply Bb2 | apply Bb3 | refine Bb4 ?_ GE173.out) | exact HB.out)) hb); clear BK173; clear HB; have BK173 := n0_; have HB := n1_; clear n0_ n1_; (try clear hb); (try clear hb2); (try clear hk); (try clear hi)))
           go_roundg kj6
           case measure => have := HK1.out; have := HJ6.out; omega
           case rel => exact ⟨(wrap64 (x3_1 + 1)), (by first | rfl | (simp; done) | (simp [*]; done)), H', ⟨by have := HK1.out; have := HJ6.out; omega⟩, ⟨by repeat (first | (with_reducible first | exact HB.out | apply Bb1 | apply Bb2 | apply Bb3 | refine Bb4 ?_ GE173.out) | exact HB.out)⟩⟩
    ·rw [if_neg c3] at H
     exact absurd H (by simp)
   ·rw [if_neg c2] at H
    have c2b0 : decide (x3_1 < (l0.length : Int)) = false := decide_eq_false c2
    clear c2
    obtain rfl := oi H
    go_wp2
    go_ret
    exact ⟨by first | rfl | (simp [errW_none, errW_some] <;> rfl) | (simp [*, errW_none, errW_some] <;> rfl), by repeat (first | (with_reducible first | exact HB.out | apply Bb1 | apply Bb2 | apply Bb3) | exact HB.out)⟩

/-! ### spec_l04Size: function 29 -/
def spec_l04Size.l0 : Nat → List (S35) → Int → Int → Int → Int → Int → Option (Int × Int)
 | 0, _, _, _, _, _, _ => none
 | k + 1, x0, x4, x5, x6, x7, x8 => if x8 < (x0.length : Int) then (if 0 ≤ x8 then (spec_l04Size.l0 k x0 x4 x5 (mx x6 (wrap64 ((wrap64 (((rd_T35 x0 x8).f0) - x4)) + 1))) (mx x7 (wrap64 ((wrap64 (((rd_T35 x0 x8).f1) - x5)) + 1))) (wrap64 (x8 + 1))) else (none)) else (some (x6, x7))
def spec_l04Size.f (k : Nat) (l0 : List (S35)) : Option (Int × Int) := (spec_l02Least.f k l0).bind fun bt179 => (spec_l04Size.l0 k l0 bt179.1 bt179.2 0 0 0)
theorem spec_l04Size.mono_l : ∀ k, (∀ y0 y1 y2 y3 y4 y5, LeO (spec_l04Size.l0 k y0 y1 y2 y3 y4 y5) (spec_l04Size.l0 (k + 1) y0 y1 y2 y3 y4 y5))
 | 0 => fun _ _ _ _ _ _ r h => by simp [spec_l04Size.l0] at h
 | k + 1 => by
  have ih0 := spec_l04Size.mono_l k
  ·intro y0 y1 y2 y3 y4 y5
   unfold spec_l04Size.l0
   repeat' first
   | (with_reducible exact ih0 _ _ _ _ _ _)
   | (with_reducible exact spec_l02Least.mono _ _)
   | (with_reducible exact LeO.refl _)
   | (with_reducible exact LeO.none _)
   | (with_reducible refine LeO.ite ?_ ?_)
   | (with_reducible refine LeO.bind ?_ (fun _ => ?_))
   | exact ih0 _ _ _ _ _ _
   | exact spec_l02Least.mono _ _
   | exact LeO.none _
   | refine LeO.ite ?_ ?_
   | refine LeO.bind ?_ (fun _ => ?_)
theorem spec_l04Size.mono : ∀ a0 k, LeO (spec_l04Size.f k a0) (spec_l04Size.f (k + 1) a0) := by
 intro a0 k
 have ih0 := spec_l04Size.mono_l k
 unfold spec_l04Size.f
 repeat' first
   | (with_reducible exact ih0 _ _ _ _ _ _)
   | (with_reducible exact spec_l02Least.mono _ _)
   | (with_reducible exact LeO.refl _)
   | (with_reducible exact LeO.none _)
   | (with_reducible refine LeO.ite ?_ ?_)
   | (with_reducible refine LeO.bind ?_ (fun _ => ?_))
   | exact ih0 _ _ _ _ _ _
   | exact spec_l02Least.mono _ _
   | exact LeO.none _
   | refine LeO.ite ?_ ?_
   | refine LeO.bind ?_ (fun _ => ?_)
set_option maxHeartbeats 8000000 in
set_option maxRecDepth 100000 in
theorem spec_l04Size.calls (k : Nat) (A0 : Option Addr) (c0 : Nat) (l0 : List (S35)) (r1 : Int) (r2 : Int) (w : World) (hr0 : Kd.C k35 w A0 l0.length l0) (hc0 : l0.length ≤ c0) (h : spec_l04Size.f k l0 = some (r1, r2)) :
  Calls Try.prog 29 #[.slice A0 l0.length c0] w fun e w' => e = .returned (.tuple #[.int .i64 r1, .int .i64 r2]) ∧ Below w.heap.size w w' := by
 have HR0 := am hr0
 have HC0 := am hc0
 clear hr0 hc0
 have HB := am (Below.refl w.heap.size w)
 have H : ((spec_l02Least.f k l0).bind fun bt179 => (spec_l04Size.l0 k l0 bt179.1 bt179.2 0 0 0)) = some (r1, r2) := h
 clear h
 replace H := ob H
 obtain ⟨⟨t179, t180⟩, A20, H⟩ := H
 replace H : (spec_l04Size.l0 k l0 t179 t180 0 0 0) = some (r1, r2) := H
 have A2 := am A20
 clear A20
 have H' := am H
 clear H
 go_enter Try.func29, Try.ntmps29
 go_wp2_with (first | ((with_reducible refine gate_callee (f := 28) rfl ?_); refine goesL_ (some 11) rfl rfl Try.func28 (by kernel_rfl) rfl #[.slice A0 l0.length c0] rfl (by (try simp only [List.map_toArray, List.map_cons, List.map_nil]); first | done | rfl | (simp only [List.length_drop, List.length_take]; rfl)) ?_; (with_reducible refine (spec_l02Least.calls k _ _ l0 t179 t180 _ ?side1 ?side2 A2.out).mono ?_); (case side1 => repeat (first | exact HR0.out | (with_reducible refine Kd.C_alloc ?_ _) | (with_reducible refine Kd.C_drewN ?_ _) | (with_reducible refine Kd.C_drew ?_))); (case side2 => exact HC0.out); rintro e w3 ⟨rfl, hb⟩; refine ⟨_, rfl, ?_⟩; have n0_ := am (Bb6 (by repeat (first | (with_reducible first | exact HB.out | apply Bb1 | apply Bb2 | apply Bb3) | exact HB.out)) hb); clear HB; have HB := n0_; clear n0_; (try clear hb); (try clear hb2); (try clear hk); (try clear hi)))
 go_loopg [6, 7, 8] k (fun kq v6 v7 v8 w' => ∃ (x6_1 : Int) (x7_1 : Int) (x8_1 : Int), v6 = .int .i64 x6_1 ∧ v7 = .int .i64 x7_1 ∧ v8 = .int .i64 x8_1 ∧ Aside0 (spec_l04Size.l0 kq l0 t179 t180 x6_1 x7_1 x8_1 = some (r1, r2)) ∧ Aside0 (kq ≤ k) ∧ Aside0 (Below w.heap.size w w'))
 case atStart => exact ⟨(0), (0), (0), (by first | rfl | (simp; done) | (simp [*]; done)), (by first | rfl | (simp; done) | (simp [*]; done)), (by first | rfl | (simp; done) | (simp [*]; done)), H', ⟨Nat.le_refl _⟩, ⟨by repeat (first | (with_reducible first | exact HB.out | apply Bb1 | apply Bb2 | apply Bb3) | exact HB.out)⟩⟩
 case round =>
  clear H'
  try clear c2
  try clear p2
  obtain ⟨x6_1, x7_1, x8_1, rfl, rfl, rfl, HA, HK1, HB⟩ := hrel
  cases gk with
  | zero => exact absurd HA.out (by simp [spec_l04Size.l0])
  | succ k1 =>
   have H := HA.out
   clear HA
   simp only [spec_l04Size.l0] at H
   by_cases c4 : x8_1 < (l0.length : Int)
   ·rw [if_pos c4] at H
    have c4b0 : decide (x8_1 < (l0.length : Int)) = true := decide_eq_true c4
    clear c4
    by_cases c5 : 0 ≤ x8_1
    ·rw [if_pos c5] at H
     have c5b0 : decide (0 ≤ x8_1) = true := decide_eq_true c5
     clear c5
     obtain ⟨ji6, hji6⟩ : ∃ j_ : Int, (mx x6_1 (wrap64 ((wrap64 (((rd_T35 l0 x8_1).f0) - t179)) + 1))) = j_ := ⟨_, rfl⟩
     replace H : (spec_l04Size.l0 k1 l0 t179 t180 ji6 (mx x7_1 (wrap64 ((wrap64 (((rd_T35 l0 x8_1).f1) - t180)) + 1))) (wrap64 (x8_1 + 1))) = some (r1, r2) := by first | (rw [hji6] at H; exact H) | (simp only [hji6] at H ⊢; exact H)
     have hji6_ : (if x6_1 < (wrap64 ((wrap64 (((rd_T35 l0 x8_1).f0) - t179)) + 1)) then (wrap64 ((wrap64 (((rd_T35 l0 x8_1).f0) - t179)) + 1)) else x6_1) = ji6 := hji6
     obtain ⟨ji7, hji7⟩ : ∃ j_ : Int, (mx x7_1 (wrap64 ((wrap64 (((rd_T35 l0 x8_1).f1) - t180)) + 1))) = j_ := ⟨_, rfl⟩
     replace H : (spec_l04Size.l0 k1 l0 t179 t180 ji6 ji7 (wrap64 (x8_1 + 1))) = some (r1, r2) := by first | (rw [hji7] at H; exact H) | (simp only [hji7] at H ⊢; exact H)
     have hji7_ : (if x7_1 < (wrap64 ((wrap64 (((rd_T35 l0 x8_1).f1) - t180)) + 1)) then (wrap64 ((wrap64 (((rd_T35 l0 x8_1).f1) - t180)) + 1)) else x7_1) = ji7 := hji7
     have H' := am H
     clear H
     have p181 : 0 ≤ (x8_1 : Int) := of_decide_eq_true (by first | (with_reducible assumption) | assumption)
     have q181 : x8_1 < (l0.length : Int) := of_decide_eq_true (by first | (with_reducible assumption) | assumption)
     obtain ⟨ad181, e181, hx181_0, hx181_1⟩ := at_T35 HR0.out x8_1 p181 q181
     cases e181
     replace hx181_0 := pc HB.out hx181_0
     replace hx181_1 := pc HB.out hx181_1
     replace p181 := eq_true p181
     replace q181 := eq_true q181
     have p182 : 0 ≤ (x8_1 : Int) := of_decide_eq_true (by first | (with_reducible assumption) | assumption)
     have q182 : x8_1 < (l0.length : Int) := of_decide_eq_true (by first | (with_reducible assumption) | assumption)
     obtain ⟨ad182, e182, hx182_0, hx182_1⟩ := at_T35 HR0.out x8_1 p182 q182
     obtain rfl : ad181 = ad182 := (by injection e182)
     replace hx182_0 := pc HB.out hx182_0
     replace hx182_1 := pc HB.out hx182_1
     replace p182 := eq_true p182
     replace q182 := eq_true q182
     go_wp2
     go_roundg k1
     case measure => have := HK1.out; omega
     case rel => exact ⟨(ji6), (ji7), (wrap64 (x8_1 + 1)), (by first | rfl | (simp; done) | (simp only [← hji6] <;> (first | rfl | simp)) | (simp [*]; done)), (by first | rfl | (simp; done) | (simp only [← hji7] <;> (first | rfl | simp)) | (simp [*]; done)), (by first | rfl | (simp; done) | (simp [*]; done)), H', ⟨by have := HK1.out; omega⟩, ⟨by repeat (first | (with_reducible first | exact HB.out | apply Bb1 | apply Bb2 | apply Bb3) | exact HB.out)⟩⟩
    ·rw [if_neg c5] at H
     exact absurd H (by simp)
   ·rw [if_neg c4] at H
    have c4b0 : decide (x8_1 < (l0.length : Int)) = false := decide_eq_false c4
    clear c4
    simp only [Option.some.injEq, Prod.mk.injEq] at H
    obtain ⟨rfl, rfl⟩ := H
    go_wp2
    go_ret2
    exact ⟨by first | rfl | (simp [errW_none, errW_some] <;> rfl) | (simp [*, errW_none, errW_some] <;> rfl), by repeat (first | (with_reducible first | exact HB.out | apply Bb1 | apply Bb2 | apply Bb3) | exact HB.out)⟩

end Go.Proofs.Ytgfpmgmelhbkoaa.Q
