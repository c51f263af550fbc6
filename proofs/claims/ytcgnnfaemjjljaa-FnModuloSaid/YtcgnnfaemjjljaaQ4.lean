/- Written by a program of this session (wip/tools/pp.py) out of the translation, with the kit's printer. -/
import Derived.Test.YtcgnnfaemjjljaaQ0
import Derived.Test.YtcgnnfaemjjljaaQ2
import Derived.Test.YtcgnnfaemjjljaaQGspecl01From
import Derived.Test.YtcgnnfaemjjljaaQGspecl01Next
import Derived.Test.YtcgnnfaemjjljaaQ3
namespace Go.Proofs.Ytcgnnfaemjjljaa.Q
open Go.RowKit Go.Proofs.YtcgnnfaemjjljaaW.PrintWords Go.Proofs.YtcgnnfaemjjljaaW.PrintLast Go.Proofs.YtcgnnfaemjjljaaW.PrintMore
attribute [local go_sem] max2_int min2_int max_two min_two max_three min_three max_four min_four
set_option linter.unusedVariables false
set_option linter.unusedSimpArgs false

/-! ### spec_DrawCellModulo: function 13 -/
def spec_DrawCellModulo.f (l0 : List Int) : Option (Int × Int × Int × Int × Int) := (spec_l01From.f l0).bind fun bt138 => ((spec_l01Next.f bt138.1 bt138.2.1 bt138.2.2 21).bind fun bt142 => ((spec_l01Next.f bt138.1 bt142.2.1 bt142.2.2 21).bind fun bt145 => ((spec_l01Next.f bt138.1 bt145.2.1 bt145.2.2 16).bind fun bt149 => (if bt149.1 = 0 then ((some (([(-100), 100, 101] : List Int) : List Int)).bind fun y152 => ((spec_l01Next.f bt138.1 bt149.2.1 bt149.2.2 3).bind fun bt155 => (if 0 ≤ bt155.1 then (if bt155.1 < (y152.length : Int) then ((spec_l24Draw.f bt138.1 bt155.2.1 bt155.2.2).bind fun bt159 => (some (rd y152 bt155.1, wrap64 (bt145.1 - 10), bt159.1, bt159.2.1, bt159.2.2.1))) else (none)) else (none)))) else ((spec_l24Draw.f bt138.1 bt149.2.1 bt149.2.2).bind fun bt164 => (some (wrap64 (bt142.1 - 10), wrap64 (bt145.1 - 10), bt164.1, bt164.2.1, bt164.2.2.1)))))))
set_option maxHeartbeats 8000000 in
set_option maxRecDepth 100000 in
theorem spec_DrawCellModulo.calls (A0 : Option Addr) (c0 : Nat) (l0 : List Int) (r1 : Int) (r2 : Int) (r3 : Int) (r4 : Int) (r5 : Int) (w : World) (hr0 : Kd.C (Kd.int .u8) w A0 l0.length l0) (hc0 : l0.length ≤ c0) (h : spec_DrawCellModulo.f l0 = some (r1, r2, r3, r4, r5)) :
  Calls Try.prog 13 #[.slice A0 l0.length c0] w fun e w' => e = .returned (.tuple #[.agg #[.int .i64 r1, .int .i64 r2], .agg #[.int .i64 r3, .int .i64 r4, .int .i64 r5]]) ∧ Below w.heap.size w w' := by
 have hu37 := Try.underlying37
 have hu30 := Try.underlying30
 have HR0 := am hr0
 have HC0 := am hc0
 clear hr0 hc0
 have HB := am (Below.refl w.heap.size w)
 have H : ((spec_l01From.f l0).bind fun bt138 => ((spec_l01Next.f bt138.1 bt138.2.1 bt138.2.2 21).bind fun bt142 => ((spec_l01Next.f bt138.1 bt142.2.1 bt142.2.2 21).bind fun bt145 => ((spec_l01Next.f bt138.1 bt145.2.1 bt145.2.2 16).bind fun bt149 => (if bt149.1 = 0 then ((some (([(-100), 100, 101] : List Int) : List Int)).bind fun y152 => ((spec_l01Next.f bt138.1 bt149.2.1 bt149.2.2 3).bind fun bt155 => (if 0 ≤ bt155.1 then (if bt155.1 < (y152.length : Int) then ((spec_l24Draw.f bt138.1 bt155.2.1 bt155.2.2).bind fun bt159 => (some (rd y152 bt155.1, wrap64 (bt145.1 - 10), bt159.1, bt159.2.1, bt159.2.2.1))) else (none)) else (none)))) else ((spec_l24Draw.f bt138.1 bt149.2.1 bt149.2.2).bind fun bt164 => (some (wrap64 (bt142.1 - 10), wrap64 (bt145.1 - 10), bt164.1, bt164.2.1, bt164.2.2.1)))))))) = some (r1, r2, r3, r4, r5) := h
 clear h
 replace H := ob H
 obtain ⟨⟨t138, t139, t140⟩, A20, H⟩ := H
 replace H : ((spec_l01Next.f t138 t139 t140 21).bind fun bt142 => ((spec_l01Next.f t138 bt142.2.1 bt142.2.2 21).bind fun bt145 => ((spec_l01Next.f t138 bt145.2.1 bt145.2.2 16).bind fun bt149 => (if bt149.1 = 0 then ((some (([(-100), 100, 101] : List Int) : List Int)).bind fun y152 => ((spec_l01Next.f t138 bt149.2.1 bt149.2.2 3).bind fun bt155 => (if 0 ≤ bt155.1 then (if bt155.1 < (y152.length : Int) then ((spec_l24Draw.f t138 bt155.2.1 bt155.2.2).bind fun bt159 => (some (rd y152 bt155.1, wrap64 (bt145.1 - 10), bt159.1, bt159.2.1, bt159.2.2.1))) else (none)) else (none)))) else ((spec_l24Draw.f t138 bt149.2.1 bt149.2.2).bind fun bt164 => (some (wrap64 (bt142.1 - 10), wrap64 (bt145.1 - 10), bt164.1, bt164.2.1, bt164.2.2.1))))))) = some (r1, r2, r3, r4, r5) := H
 have A2 := am A20
 clear A20
 replace H := ob H
 obtain ⟨⟨t142, t143, t144⟩, A30, H⟩ := H
 replace H : ((spec_l01Next.f t138 t143 t144 21).bind fun bt145 => ((spec_l01Next.f t138 bt145.2.1 bt145.2.2 16).bind fun bt149 => (if bt149.1 = 0 then ((some (([(-100), 100, 101] : List Int) : List Int)).bind fun y152 => ((spec_l01Next.f t138 bt149.2.1 bt149.2.2 3).bind fun bt155 => (if 0 ≤ bt155.1 then (if bt155.1 < (y152.length : Int) then ((spec_l24Draw.f t138 bt155.2.1 bt155.2.2).bind fun bt159 => (some (rd y152 bt155.1, wrap64 (bt145.1 - 10), bt159.1, bt159.2.1, bt159.2.2.1))) else (none)) else (none)))) else ((spec_l24Draw.f t138 bt149.2.1 bt149.2.2).bind fun bt164 => (some (wrap64 (t142 - 10), wrap64 (bt145.1 - 10), bt164.1, bt164.2.1, bt164.2.2.1)))))) = some (r1, r2, r3, r4, r5) := H
 have A3 := am A30
 clear A30
 replace H := ob H
 obtain ⟨⟨t145, t146, t147⟩, A40, H⟩ := H
 replace H : ((spec_l01Next.f t138 t146 t147 16).bind fun bt149 => (if bt149.1 = 0 then ((some (([(-100), 100, 101] : List Int) : List Int)).bind fun y152 => ((spec_l01Next.f t138 bt149.2.1 bt149.2.2 3).bind fun bt155 => (if 0 ≤ bt155.1 then (if bt155.1 < (y152.length : Int) then ((spec_l24Draw.f t138 bt155.2.1 bt155.2.2).bind fun bt159 => (some (rd y152 bt155.1, wrap64 (t145 - 10), bt159.1, bt159.2.1, bt159.2.2.1))) else (none)) else (none)))) else ((spec_l24Draw.f t138 bt149.2.1 bt149.2.2).bind fun bt164 => (some (wrap64 (t142 - 10), wrap64 (t145 - 10), bt164.1, bt164.2.1, bt164.2.2.1))))) = some (r1, r2, r3, r4, r5) := H
 have A4 := am A40
 clear A40
 replace H := ob H
 obtain ⟨⟨t149, t150, t151⟩, A50, H⟩ := H
 replace H : (if t149 = 0 then ((some (([(-100), 100, 101] : List Int) : List Int)).bind fun y152 => ((spec_l01Next.f t138 t150 t151 3).bind fun bt155 => (if 0 ≤ bt155.1 then (if bt155.1 < (y152.length : Int) then ((spec_l24Draw.f t138 bt155.2.1 bt155.2.2).bind fun bt159 => (some (rd y152 bt155.1, wrap64 (t145 - 10), bt159.1, bt159.2.1, bt159.2.2.1))) else (none)) else (none)))) else ((spec_l24Draw.f t138 t150 t151).bind fun bt164 => (some (wrap64 (t142 - 10), wrap64 (t145 - 10), bt164.1, bt164.2.1, bt164.2.2.1)))) = some (r1, r2, r3, r4, r5) := H
 have A5 := am A50
 clear A50
 by_cases c6 : t149 = 0
 ·rw [if_pos c6] at H
  have c6b0 : (t149 == 0) = true := beq_iff_eq.mpr c6
  have c6b1 : (t149 != 0) = false := bne_eq_false_iff_eq.mpr c6
  clear c6
  obtain ⟨y152, hy152⟩ : ∃ y_ : List Int, y_ = (([(-100), 100, 101] : List Int)) := ⟨_, rfl⟩
  replace H : ((spec_l01Next.f t138 t150 t151 3).bind fun bt155 => (if 0 ≤ bt155.1 then (if bt155.1 < (y152.length : Int) then ((spec_l24Draw.f t138 bt155.2.1 bt155.2.2).bind fun bt159 => (some (rd y152 bt155.1, wrap64 (t145 - 10), bt159.1, bt159.2.1, bt159.2.2.1))) else (none)) else (none))) = some (r1, r2, r3, r4, r5) := by first | (rw [hy152]; with_reducible exact H) | (have H2_ := (Option.bind_some _ _).symm.trans H; rw [hy152]; with_reducible exact H2_) | (have H2_ := (Option.bind_some _ _).symm.trans H; with_reducible exact H2_) | with_reducible exact H | (rw [hy152]; exact H) | exact H
  have Ny152 := am hy152
  clear hy152
  replace H := ob H
  obtain ⟨⟨t155, t156, t157⟩, A70, H⟩ := H
  replace H : (if 0 ≤ t155 then (if t155 < (y152.length : Int) then ((spec_l24Draw.f t138 t156 t157).bind fun bt159 => (some (rd y152 t155, wrap64 (t145 - 10), bt159.1, bt159.2.1, bt159.2.2.1))) else (none)) else (none)) = some (r1, r2, r3, r4, r5) := H
  have A7 := am A70
  clear A70
  by_cases c8 : 0 ≤ t155
  ·rw [if_pos c8] at H
   have c8b0 : decide (0 ≤ t155) = true := decide_eq_true c8
   clear c8
   by_cases c9 : t155 < (y152.length : Int)
   ·rw [if_pos c9] at H
    have c9b0 : decide (t155 < (y152.length : Int)) = true := decide_eq_true c9
    clear c9
    replace H := ob H
    obtain ⟨⟨t159, t160, t161, t162, t163⟩, A100, H⟩ := H
    replace H : (some (rd y152 t155, wrap64 (t145 - 10), t159, t160, t161)) = some (r1, r2, r3, r4, r5) := H
    have A10 := am A100
    clear A100
    simp only [Option.some.injEq, Prod.mk.injEq] at H
    obtain ⟨rfl, rfl, rfl, rfl, rfl⟩ := H
    go_enter Try.func13, Try.ntmps13
    try go_wp2_with (first | ((with_reducible refine gate_dst (N := 2) rfl ?_); refine box_event ?hg (N := 2) ?hd (cs := #[.int .i64 0, .int .i64 0]) (t := 37) ?hr ?_; (case hd => rfl); (case hg => rfl); (case hr => first | (go_simp; done) | (go_simp; rfl)); intro gb136 hg w11 hbox hb; have n0_ := am (b6 (by repeat (first | (with_reducible first | exact HB.out | apply b1 | apply b2 | apply b3) | exact HB.out)) hb); have n1_ := am (hbox); have n2_ := am ((by rw [hg]; exact (b5 (by repeat (first | (with_reducible first | exact HB.out | apply b1 | apply b2 | apply b3) | exact HB.out))) : w.heap.size ≤ gb136)); have n3_ := n2_; clear HB; have HB := n0_; have BK136 := n1_; have GW136 := n2_; have GE136 := n3_; clear n0_ n1_ n2_ n3_; clear hb hbox hg) | ((with_reducible refine gate_dst (N := 3) rfl ?_); refine box_event ?hg (N := 3) ?hd (cs := #[.int .i64 0, .int .i64 0, .int .i64 0]) (t := 30) ?hr ?_; (case hd => rfl); (case hg => rfl); (case hr => first | (go_simp; done) | (go_simp; rfl)); intro gb137 hg w12 hbox hb; have n0_ := am (k4 (g := gb136) (o := .cells #[.int .i64 0, .int .i64 0] 37 (0, 0)) (by (with_reducible repeat (first | refine k2 ?_ _ | refine k3 ?_ | refine k1 ?_ _)); exact BK136.out) hb); have n1_ := am (b6 (by repeat (first | (with_reducible first | exact HB.out | apply b1 | apply b2 | apply b3 | refine b4 ?_ GE136.out) | exact HB.out)) hb); have n2_ := am (hbox); have n3_ := am ((by rw [hg]; exact (b5 (by repeat (first | (with_reducible first | exact HB.out | apply b1 | apply b2 | apply b3 | refine b4 ?_ GE136.out) | exact HB.out))) : w.heap.size ≤ gb137)); have n4_ := n3_; have n5_ := am ((by rw [hg]; exact nl (k5 (g := gb136) (o := .cells #[.int .i64 0, .int .i64 0] 37 (0, 0)) (by (with_reducible repeat (first | refine k2 ?_ _ | refine k3 ?_ | refine k1 ?_ _)); exact BK136.out)) : gb136 ≠ gb137)); have n6_ := am ((by rw [hg]; exact ng (k5 (g := gb136) (o := .cells #[.int .i64 0, .int .i64 0] 37 (0, 0)) (by (with_reducible repeat (first | refine k2 ?_ _ | refine k3 ?_ | refine k1 ?_ _)); exact BK136.out)) : gb137 ≠ gb136)); clear BK136; clear HB; have BK136 := n0_; have HB := n1_; have BK137 := n2_; have GW137 := n3_; have GE137 := n4_; have NB136_137 := n5_; have NB137_136 := n6_; clear n0_ n1_ n2_ n3_ n4_ n5_ n6_; clear hb hbox hg) | ((with_reducible refine gate_callee (f := 33) rfl ?_); refine goesL_ (some 7) rfl rfl Try.func33 (by kernel_rfl) rfl #[.slice A0 l0.length c0] rfl (by (try simp only [List.map_toArray, List.map_cons, List.map_nil]); first | done | rfl | (simp only [List.length_drop, List.length_take]; rfl)) ?_; (with_reducible refine (spec_l01From.calls _ _ l0 t138 t139 t140 w _ ?side1 ?side2 ?side3 A2.out).mono ?_); (case side1 => repeat (first | (with_reducible first | exact HB.out | apply b1 | apply b2 | apply b3 | refine b4 ?_ GE136.out | refine b4 ?_ GE137.out) | exact HB.out)); (case side2 => exact HR0.out); (case side3 => exact HC0.out); rintro e w13 ⟨g141, rfl, hi, hb, hb2⟩; refine ⟨_, rfl, ?_⟩; have n0_ := am (k4 (g := gb136) (o := .cells #[.int .i64 0, .int .i64 0] 37 (0, 0)) (by (with_reducible repeat (first | refine k2 ?_ _ | refine k3 ?_ | refine k1 ?_ _)); exact BK136.out) hb2); have n1_ := am (k4 (g := gb137) (o := .cells #[.int .i64 0, .int .i64 0, .int .i64 0] 30 (0, 0)) (by (with_reducible repeat (first | refine k2 ?_ _ | refine k3 ?_ | refine k1 ?_ _)); exact BK137.out) hb2); have n2_ := am (hb); have n3_ := am (hi); have n4_ := am (IsS75.ne_blk hi (k4 (g := gb136) (o := .cells #[.int .i64 0, .int .i64 0] 37 (0, 0)) (by (with_reducible repeat (first | refine k2 ?_ _ | refine k3 ?_ | refine k1 ?_ _)); exact BK136.out) hb2) (by decide)); have n5_ := am (Ne.symm (IsS75.ne_blk hi (k4 (g := gb136) (o := .cells #[.int .i64 0, .int .i64 0] 37 (0, 0)) (by (with_reducible repeat (first | refine k2 ?_ _ | refine k3 ?_ | refine k1 ?_ _)); exact BK136.out) hb2) (by decide))); have n6_ := am (IsS75.ne_blk hi (k4 (g := gb137) (o := .cells #[.int .i64 0, .int .i64 0, .int .i64 0] 30 (0, 0)) (by (with_reducible repeat (first | refine k2 ?_ _ | refine k3 ?_ | refine k1 ?_ _)); exact BK137.out) hb2) (by decide)); have n7_ := am (Ne.symm (IsS75.ne_blk hi (k4 (g := gb137) (o := .cells #[.int .i64 0, .int .i64 0, .int .i64 0] 30 (0, 0)) (by (with_reducible repeat (first | refine k2 ?_ _ | refine k3 ?_ | refine k1 ?_ _)); exact BK137.out) hb2) (by decide))); clear BK136; clear BK137; clear HB; have BK136 := n0_; have BK137 := n1_; have HB := n2_; have HI141 := n3_; have NB141_136 := n4_; have NB136_141 := n5_; have NB141_137 := n6_; have NB137_141 := n7_; clear n0_ n1_ n2_ n3_ n4_ n5_ n6_ n7_; (try clear hb); (try clear hb2); (try clear hk); (try clear hi)) | ((with_reducible refine gate_callee (f := 34) rfl ?_); refine goesL_ (some 9) rfl rfl Try.func34 (by kernel_rfl) rfl #[.pointer (some ⟨g141, 0, none⟩), .int .i64 21] rfl (by (try simp only [List.map_toArray, List.map_cons, List.map_nil]); first | done | rfl | (simp only [List.length_drop, List.length_take]; rfl)) ?_; (with_reducible refine (spec_l01Next.calls g141 t138 t139 t140 21 t142 t143 t144 w _ ?side1 ?side2 A3.out).mono ?_); (case side1 => repeat (first | (with_reducible first | exact HI141.out | apply IsS75.alloc | apply IsS75.drewN | apply IsS75.drew | apply IsS75.set_1 | apply IsS75.set_2 | refine IsS75.far ?_ NB141_136.out _ | refine IsS75.far ?_ NB141_137.out _) | exact HI141.out)); (case side2 => repeat (first | (with_reducible first | exact HB.out | apply b1 | apply b2 | apply b3 | refine b4 ?_ (IsS75.ge HI141.out) | refine b4 ?_ GE136.out | refine b4 ?_ GE137.out) | exact HB.out)); rintro e w14 ⟨rfl, hi, hb, hk⟩; refine ⟨_, rfl, ?_⟩; have n0_ := am (KeepBut.blk hk (g' := gb136) (o := .cells #[.int .i64 0, .int .i64 0] 37 (0, 0)) (by (with_reducible repeat (first | refine k2 ?_ _ | refine k3 ?_ | refine k1 ?_ _)); exact BK136.out) NB136_141.out (by simp)); have n1_ := am (KeepBut.blk hk (g' := gb137) (o := .cells #[.int .i64 0, .int .i64 0, .int .i64 0] 30 (0, 0)) (by (with_reducible repeat (first | refine k2 ?_ _ | refine k3 ?_ | refine k1 ?_ _)); exact BK137.out) NB137_141.out (by simp)); have n2_ := am (hb); have n3_ := am (hi); clear BK136; clear BK137; clear HB; clear HI141; have BK136 := n0_; have BK137 := n1_; have HB := n2_; have HI141 := n3_; clear n0_ n1_ n2_ n3_; (try clear hb); (try clear hb2); (try clear hk); (try clear hi)) | ((with_reducible refine gate_callee (f := 34) rfl ?_); refine goesL_ (some 12) rfl rfl Try.func34 (by kernel_rfl) rfl #[.pointer (some ⟨g141, 0, none⟩), .int .i64 21] rfl (by (try simp only [List.map_toArray, List.map_cons, List.map_nil]); first | done | rfl | (simp only [List.length_drop, List.length_take]; rfl)) ?_; (with_reducible refine (spec_l01Next.calls g141 t138 t143 t144 21 t145 t146 t147 w _ ?side1 ?side2 A4.out).mono ?_); (case side1 => repeat (first | (with_reducible first | exact HI141.out | apply IsS75.alloc | apply IsS75.drewN | apply IsS75.drew | apply IsS75.set_1 | apply IsS75.set_2 | refine IsS75.far ?_ NB141_136.out _ | refine IsS75.far ?_ NB141_137.out _) | exact HI141.out)); (case side2 => repeat (first | (with_reducible first | exact HB.out | apply b1 | apply b2 | apply b3 | refine b4 ?_ (IsS75.ge HI141.out) | refine b4 ?_ GE136.out | refine b4 ?_ GE137.out) | exact HB.out)); rintro e w15 ⟨rfl, hi, hb, hk⟩; refine ⟨_, rfl, ?_⟩; have n0_ := am (KeepBut.blk hk (g' := gb136) (o := .cells #[.int .i64 0, .int .i64 0] 37 (0, 0)) (by (with_reducible repeat (first | refine k2 ?_ _ | refine k3 ?_ | refine k1 ?_ _)); exact BK136.out) NB136_141.out (by simp)); have n1_ := am (KeepBut.blk hk (g' := gb137) (o := .cells #[.int .i64 0, .int .i64 0, .int .i64 0] 30 (0, 0)) (by (with_reducible repeat (first | refine k2 ?_ _ | refine k3 ?_ | refine k1 ?_ _)); exact BK137.out) NB137_141.out (by simp)); have n2_ := am (hb); have n3_ := am (hi); clear BK136; clear BK137; clear HB; clear HI141; have BK136 := n0_; have BK137 := n1_; have HB := n2_; have HI141 := n3_; clear n0_ n1_ n2_ n3_; (try clear hb); (try clear hb2); (try clear hk); (try clear hi)) | ((with_reducible refine gate_dst (N := 5) rfl ?_); refine box_event ?hg (N := 5) ?hd (cs := #[.int .i64 0, .int .i64 0]) (t := 37) ?hr ?_; (case hd => rfl); (case hg => rfl); (case hr => first | (go_simp; done) | (go_simp; rfl)); intro gb148 hg w16 hbox hb; have n0_ := am (k4 (g := gb136) (o := .cells #[.int .i64 0, .int .i64 0] 37 (0, 0)) (by (with_reducible repeat (first | refine k2 ?_ _ | refine k3 ?_ | refine k1 ?_ _)); exact BK136.out) hb); have n1_ := am (k4 (g := gb137) (o := .cells #[.int .i64 0, .int .i64 0, .int .i64 0] 30 (0, 0)) (by (with_reducible repeat (first | refine k2 ?_ _ | refine k3 ?_ | refine k1 ?_ _)); exact BK137.out) hb); have n2_ := am (IsS75.below (by repeat (first | (with_reducible first | exact HI141.out | apply IsS75.alloc | apply IsS75.drewN | apply IsS75.drew | apply IsS75.set_1 | apply IsS75.set_2 | refine IsS75.far ?_ NB141_136.out _ | refine IsS75.far ?_ NB141_137.out _) | exact HI141.out)) hb); have n3_ := am (b6 (by repeat (first | (with_reducible first | exact HB.out | apply b1 | apply b2 | apply b3 | refine b4 ?_ (IsS75.ge HI141.out) | refine b4 ?_ GE136.out | refine b4 ?_ GE137.out) | exact HB.out)) hb); have n4_ := am (hbox); have n5_ := am ((by rw [hg]; exact (b5 (by repeat (first | (with_reducible first | exact HB.out | apply b1 | apply b2 | apply b3 | refine b4 ?_ (IsS75.ge HI141.out) | refine b4 ?_ GE136.out | refine b4 ?_ GE137.out) | exact HB.out))) : w.heap.size ≤ gb148)); have n6_ := n5_; have n7_ := am ((by rw [hg]; exact nl (k5 (g := gb136) (o := .cells #[.int .i64 0, .int .i64 0] 37 (0, 0)) (by (with_reducible repeat (first | refine k2 ?_ _ | refine k3 ?_ | refine k1 ?_ _)); exact BK136.out)) : gb136 ≠ gb148)); have n8_ := am ((by rw [hg]; exact ng (k5 (g := gb136) (o := .cells #[.int .i64 0, .int .i64 0] 37 (0, 0)) (by (with_reducible repeat (first | refine k2 ?_ _ | refine k3 ?_ | refine k1 ?_ _)); exact BK136.out)) : gb148 ≠ gb136)); have n9_ := am ((by rw [hg]; exact nl (k5 (g := gb137) (o := .cells #[.int .i64 0, .int .i64 0, .int .i64 0] 30 (0, 0)) (by (with_reducible repeat (first | refine k2 ?_ _ | refine k3 ?_ | refine k1 ?_ _)); exact BK137.out)) : gb137 ≠ gb148)); have n10_ := am ((by rw [hg]; exact ng (k5 (g := gb137) (o := .cells #[.int .i64 0, .int .i64 0, .int .i64 0] 30 (0, 0)) (by (with_reducible repeat (first | refine k2 ?_ _ | refine k3 ?_ | refine k1 ?_ _)); exact BK137.out)) : gb148 ≠ gb137)); have n11_ := am ((by rw [hg]; exact nl (IsS75.lt (show IsS75 w _ g141 t138 t146 t147 from by repeat (first | (with_reducible first | exact HI141.out | apply IsS75.alloc | apply IsS75.drewN | apply IsS75.drew | apply IsS75.set_1 | apply IsS75.set_2 | refine IsS75.far ?_ NB141_136.out _ | refine IsS75.far ?_ NB141_137.out _) | exact HI141.out))) : g141 ≠ gb148)); have n12_ := am ((by rw [hg]; exact ng (IsS75.lt (show IsS75 w _ g141 t138 t146 t147 from by repeat (first | (with_reducible first | exact HI141.out | apply IsS75.alloc | apply IsS75.drewN | apply IsS75.drew | apply IsS75.set_1 | apply IsS75.set_2 | refine IsS75.far ?_ NB141_136.out _ | refine IsS75.far ?_ NB141_137.out _) | exact HI141.out))) : gb148 ≠ g141)); clear BK136; clear BK137; clear HI141; clear HB; have BK136 := n0_; have BK137 := n1_; have HI141 := n2_; have HB := n3_; have BK148 := n4_; have GW148 := n5_; have GE148 := n6_; have NB136_148 := n7_; have NB148_136 := n8_; have NB137_148 := n9_; have NB148_137 := n10_; have NB141_148 := n11_; have NB148_141 := n12_; clear n0_ n1_ n2_ n3_ n4_ n5_ n6_ n7_ n8_ n9_ n10_ n11_ n12_; clear hb hbox hg; have hnb17 := NB148_136.out; have hnc17 := NB136_148.out; have hnb18 := NB148_137.out; have hnc18 := NB137_148.out; have hnb19 := NB148_141.out; have hnc19 := NB141_148.out; have hcz20_0 : w16.cell? ⟨gb148, 0, none⟩ = some (.int .i64 0) := (kc BK148.out 0).trans rfl; have hcz20_1 : w16.cell? ⟨gb148, 1, none⟩ = some (.int .i64 0) := (kc BK148.out 1).trans rfl; have hfz20_0 := kf BK148.out 0; have hfz20_1 := kf BK148.out 1) | ((with_reducible refine gate_callee (f := 34) rfl ?_); refine goesL_ (some 16) rfl rfl Try.func34 (by kernel_rfl) rfl #[.pointer (some ⟨g141, 0, none⟩), .int .i64 16] rfl (by (try simp only [List.map_toArray, List.map_cons, List.map_nil]); first | done | rfl | (simp only [List.length_drop, List.length_take]; rfl)) ?_; (with_reducible refine (spec_l01Next.calls g141 t138 t146 t147 16 t149 t150 t151 w _ ?side1 ?side2 A5.out).mono ?_); (case side1 => repeat (first | (with_reducible first | exact HI141.out | apply IsS75.alloc | apply IsS75.drewN | apply IsS75.drew | apply IsS75.set_1 | apply IsS75.set_2 | refine IsS75.far ?_ NB141_136.out _ | refine IsS75.far ?_ NB141_137.out _ | refine IsS75.far ?_ NB141_148.out _) | exact HI141.out)); (case side2 => repeat (first | (with_reducible first | exact HB.out | apply b1 | apply b2 | apply b3 | refine b4 ?_ (IsS75.ge HI141.out) | refine b4 ?_ GE136.out | refine b4 ?_ GE137.out | refine b4 ?_ GE148.out) | exact HB.out)); rintro e w21 ⟨rfl, hi, hb, hk⟩; refine ⟨_, rfl, ?_⟩; have n0_ := am (KeepBut.blk hk (g' := gb136) (o := .cells #[.int .i64 0, .int .i64 0] 37 (0, 0)) (by (with_reducible repeat (first | refine k2 ?_ _ | refine k3 ?_ | refine k1 ?_ _)); refine blk_far ?_ NB136_148.out _; (with_reducible repeat (first | refine k2 ?_ _ | refine k3 ?_ | refine k1 ?_ _)); refine blk_far ?_ NB136_148.out _; (with_reducible repeat (first | refine k2 ?_ _ | refine k3 ?_ | refine k1 ?_ _)); exact BK136.out) NB136_141.out (by simp)); have n1_ := am (KeepBut.blk hk (g' := gb137) (o := .cells #[.int .i64 0, .int .i64 0, .int .i64 0] 30 (0, 0)) (by (with_reducible repeat (first | refine k2 ?_ _ | refine k3 ?_ | refine k1 ?_ _)); refine blk_far ?_ NB137_148.out _; (with_reducible repeat (first | refine k2 ?_ _ | refine k3 ?_ | refine k1 ?_ _)); refine blk_far ?_ NB137_148.out _; (with_reducible repeat (first | refine k2 ?_ _ | refine k3 ?_ | refine k1 ?_ _)); exact BK137.out) NB137_141.out (by simp)); have n2_ := am (KeepBut.blk hk (g' := gb148) (o := .cells #[.int .i64 (wrap64 (t142 - 10)), .int .i64 (wrap64 (t145 - 10))] 37 (0, 0)) (by (with_reducible repeat (first | refine k2 ?_ _ | refine k3 ?_ | refine k1 ?_ _)); refine blk_put (cs := #[.int .i64 (wrap64 (t142 - 10)), .int .i64 0]) ?_ 1 _ rfl; (with_reducible repeat (first | refine k2 ?_ _ | refine k3 ?_ | refine k1 ?_ _)); refine blk_put (cs := #[.int .i64 0, .int .i64 0]) ?_ 0 _ rfl; (with_reducible repeat (first | refine k2 ?_ _ | refine k3 ?_ | refine k1 ?_ _)); exact BK148.out) NB148_141.out (by simp)); have n3_ := am (hb); have n4_ := am (hi); clear BK136; clear BK137; clear BK148; clear HB; clear HI141; have BK136 := n0_; have BK137 := n1_; have BK148 := n2_; have HB := n3_; have HI141 := n4_; clear n0_ n1_ n2_ n3_ n4_; (try clear hb); (try clear hb2); (try clear hk); (try clear hi)) | ((with_reducible refine gate_dst (N := 18) rfl ?_); refine Kd.R_lit (Kd.int .i64) _ 2 ?hg (N := 18) ?hd (xs := ([(-100), 100, 101] : List Int)) (inner := [.int .i64 (-100), .int .i64 100, .int .i64 101]) (ok := fun _ => True) (okp := fun _ => True) ?hr ?hp (fun _ hk => hk) trivial (Below.refl _ _) (Nat.le_refl _) (by simp) ?_; (case hd => rfl); (case hg => rfl); (case hr => first | (go_simp; done) | (go_simp; rfl)); (case hp => exact (Reps.one (show Kd.M (Kd.int .i64) _ _ _ (-100) [.int .i64 (-100)] from rfl) (Reps.one (show Kd.M (Kd.int .i64) _ _ _ 100 [.int .i64 100] from rfl) (Reps.one (show Kd.M (Kd.int .i64) _ _ _ 101 [.int .i64 101] from rfl) (Reps.none _ _))))); intro v153 w22 ho23 hb hg_ hnew_; clear hg_ hnew_; (first | rw [← Ny152.out] at ho23 | (simp only [Int.reduceToNat] at ho23; rw [← Ny152.out] at ho23)); have n0_ := am (Kd.R_lower ho23 (b5 (by repeat (first | (with_reducible first | exact HB.out | apply b1 | apply b2 | apply b3 | refine b4 ?_ (IsS75.ge HI141.out) | refine b4 ?_ GE136.out | refine b4 ?_ GE137.out | refine b4 ?_ GE148.out) | exact HB.out)))); have n1_ := am (k4 (g := gb136) (o := .cells #[.int .i64 0, .int .i64 0] 37 (0, 0)) (by (with_reducible repeat (first | refine k2 ?_ _ | refine k3 ?_ | refine k1 ?_ _)); exact BK136.out) hb); have n2_ := am (k4 (g := gb137) (o := .cells #[.int .i64 0, .int .i64 0, .int .i64 0] 30 (0, 0)) (by (with_reducible repeat (first | refine k2 ?_ _ | refine k3 ?_ | refine k1 ?_ _)); exact BK137.out) hb); have n3_ := am (IsS75.below (by repeat (first | (with_reducible first | exact HI141.out | apply IsS75.alloc | apply IsS75.drewN | apply IsS75.drew | apply IsS75.set_1 | apply IsS75.set_2 | refine IsS75.far ?_ NB141_136.out _ | refine IsS75.far ?_ NB141_137.out _ | refine IsS75.far ?_ NB141_148.out _) | exact HI141.out)) hb); have n4_ := am (k4 (g := gb148) (o := .cells #[.int .i64 (wrap64 (t142 - 10)), .int .i64 (wrap64 (t145 - 10))] 37 (0, 0)) (by (with_reducible repeat (first | refine k2 ?_ _ | refine k3 ?_ | refine k1 ?_ _)); exact BK148.out) hb); have n5_ := am (b6 (by repeat (first | (with_reducible first | exact HB.out | apply b1 | apply b2 | apply b3 | refine b4 ?_ (IsS75.ge HI141.out) | refine b4 ?_ GE136.out | refine b4 ?_ GE137.out | refine b4 ?_ GE148.out) | exact HB.out)) hb); clear BK136; clear BK137; clear HI141; clear BK148; clear HB; have HO154 := n0_; have BK136 := n1_; have BK137 := n2_; have HI141 := n3_; have BK148 := n4_; have HB := n5_; clear n0_ n1_ n2_ n3_ n4_ n5_; clear hb ho23) | ((with_reducible refine gate_callee (f := 34) rfl ?_); refine goesL_ (some 20) rfl rfl Try.func34 (by kernel_rfl) rfl #[.pointer (some ⟨g141, 0, none⟩), .int .i64 3] rfl (by (try simp only [List.map_toArray, List.map_cons, List.map_nil]); first | done | rfl | (simp only [List.length_drop, List.length_take]; rfl)) ?_; (with_reducible refine (spec_l01Next.calls g141 t138 t150 t151 3 t155 t156 t157 w _ ?side1 ?side2 A7.out).mono ?_); (case side1 => repeat (first | (with_reducible first | exact HI141.out | apply IsS75.alloc | apply IsS75.drewN | apply IsS75.drew | apply IsS75.set_1 | apply IsS75.set_2 | refine IsS75.far ?_ NB141_136.out _ | refine IsS75.far ?_ NB141_137.out _ | refine IsS75.far ?_ NB141_148.out _) | exact HI141.out)); (case side2 => repeat (first | (with_reducible first | exact HB.out | apply b1 | apply b2 | apply b3 | refine b4 ?_ (IsS75.ge HI141.out) | refine b4 ?_ GE136.out | refine b4 ?_ GE137.out | refine b4 ?_ GE148.out) | exact HB.out)); rintro e w24 ⟨rfl, hi, hb, hk⟩; refine ⟨_, rfl, ?_⟩; have n0_ := am (KeepBut.blk hk (g' := gb136) (o := .cells #[.int .i64 0, .int .i64 0] 37 (0, 0)) (by (with_reducible repeat (first | refine k2 ?_ _ | refine k3 ?_ | refine k1 ?_ _)); exact BK136.out) NB136_141.out (by simp)); have n1_ := am (KeepBut.blk hk (g' := gb137) (o := .cells #[.int .i64 0, .int .i64 0, .int .i64 0] 30 (0, 0)) (by (with_reducible repeat (first | refine k2 ?_ _ | refine k3 ?_ | refine k1 ?_ _)); exact BK137.out) NB137_141.out (by simp)); have n2_ := am (KeepBut.blk hk (g' := gb148) (o := .cells #[.int .i64 (wrap64 (t142 - 10)), .int .i64 (wrap64 (t145 - 10))] 37 (0, 0)) (by (with_reducible repeat (first | refine k2 ?_ _ | refine k3 ?_ | refine k1 ?_ _)); exact BK148.out) NB148_141.out (by simp)); have n3_ := am (Kd.R_mono (Kd.R_keep (IsS75.apart (show IsS75 w _ g141 t138 t150 t151 from by repeat (first | (with_reducible first | exact HI141.out | apply IsS75.alloc | apply IsS75.drewN | apply IsS75.drew | apply IsS75.set_1 | apply IsS75.set_2 | refine IsS75.far ?_ NB141_136.out _ | refine IsS75.far ?_ NB141_137.out _ | refine IsS75.far ?_ NB141_148.out _) | exact HI141.out)) (by (with_reducible repeat (first | apply Kd.R_alloc | apply Kd.R_drewN | apply Kd.R_drew)); exact HO154.out) (by decide)) hk (fun _ h => h.2)) (fun _ h => h.1)); have n4_ := am (hb); have n5_ := am (hi); clear BK136; clear BK137; clear BK148; clear HO154; clear HB; clear HI141; have BK136 := n0_; have BK137 := n1_; have BK148 := n2_; have HO154 := n3_; have HB := n4_; have HI141 := n5_; clear n0_ n1_ n2_ n3_ n4_ n5_; (try clear hb); (try clear hb2); (try clear hk); (try clear hi); obtain ⟨Ao25, co25, eo25⟩ := Kd.R_slice HO154.out; subst eo25; have p158 : 0 ≤ (t155 : Int) := of_decide_eq_true (by first | (with_reducible assumption) | assumption); have q158 : t155 < (y152.length : Int) := of_decide_eq_true (by first | (with_reducible assumption) | assumption); obtain ⟨ad158, e158, hx158_0⟩ := Kd.at_int (Kd.R_reads' HO154.out).2.2 t155 p158 q158; cases e158; replace p158 := eq_true p158; replace q158 := eq_true q158; have hcz26_0 : w24.cell? ⟨gb148, 0, none⟩ = some (.int .i64 (wrap64 (t142 - 10))) := (kc BK148.out 0).trans rfl; have hcz26_1 : w24.cell? ⟨gb148, 1, none⟩ = some (.int .i64 (wrap64 (t145 - 10))) := (kc BK148.out 1).trans rfl; have hfz26_0 := kf BK148.out 0; have hfz26_1 := kf BK148.out 1))
    have n0_ : Aside0 (Kd.R (Kd.int .i64) 2 (w24.setCell ⟨gb148, 0, none⟩ (.int .i64 (rd y152 t155))) w.heap.size (fun _ => True) (.slice (some ad158) y152.length co25) y152) := ⟨by (with_reducible repeat (first | apply Kd.R_alloc | apply Kd.R_drewN | apply Kd.R_drew)); exact Kd.R_mono (Kd.R_far (p := ⟨gb148, 0, none⟩) (Kd.R_types HO154.out BK148.out (by decide)) (fun _ hk => hk.2) (.int .i64 (rd y152 t155))) (fun _ hk => trivial)⟩
    have n1_ : Aside0 ((w24.setCell ⟨gb148, 0, none⟩ (.int .i64 (rd y152 t155))).heap[gb136]? = some (.cells #[.int .i64 0, .int .i64 0] 37 (0, 0))) := ⟨by (with_reducible repeat (first | refine k2 ?_ _ | refine k3 ?_ | refine k1 ?_ _)); refine blk_far ?_ NB136_148.out _; (with_reducible repeat (first | refine k2 ?_ _ | refine k3 ?_ | refine k1 ?_ _)); exact BK136.out⟩
    have n2_ : Aside0 ((w24.setCell ⟨gb148, 0, none⟩ (.int .i64 (rd y152 t155))).heap[gb137]? = some (.cells #[.int .i64 0, .int .i64 0, .int .i64 0] 30 (0, 0))) := ⟨by (with_reducible repeat (first | refine k2 ?_ _ | refine k3 ?_ | refine k1 ?_ _)); refine blk_far ?_ NB137_148.out _; (with_reducible repeat (first | refine k2 ?_ _ | refine k3 ?_ | refine k1 ?_ _)); exact BK137.out⟩
    have n3_ : Aside0 ((w24.setCell ⟨gb148, 0, none⟩ (.int .i64 (rd y152 t155))).heap[gb148]? = some (.cells #[.int .i64 (rd y152 t155), .int .i64 (wrap64 (t145 - 10))] 37 (0, 0))) := ⟨by (with_reducible repeat (first | refine k2 ?_ _ | refine k3 ?_ | refine k1 ?_ _)); refine blk_put (cs := #[.int .i64 (wrap64 (t142 - 10)), .int .i64 (wrap64 (t145 - 10))]) ?_ 0 _ rfl; (with_reducible repeat (first | refine k2 ?_ _ | refine k3 ?_ | refine k1 ?_ _)); exact BK148.out⟩
    have n4_ : Aside0 (IsS75 w (w24.setCell ⟨gb148, 0, none⟩ (.int .i64 (rd y152 t155))) g141 t138 t156 t157) := ⟨by repeat (first | (with_reducible first | exact HI141.out | apply IsS75.alloc | apply IsS75.drewN | apply IsS75.drew | apply IsS75.set_1 | apply IsS75.set_2 | refine IsS75.far ?_ NB141_136.out _ | refine IsS75.far ?_ NB141_137.out _ | refine IsS75.far ?_ NB141_148.out _) | exact HI141.out)⟩
    have n5_ : Aside0 (Below w.heap.size w (w24.setCell ⟨gb148, 0, none⟩ (.int .i64 (rd y152 t155)))) := ⟨by repeat (first | (with_reducible first | exact HB.out | apply b1 | apply b2 | apply b3 | refine b4 ?_ (IsS75.ge HI141.out) | refine b4 ?_ GE136.out | refine b4 ?_ GE137.out | refine b4 ?_ GE148.out) | exact HB.out)⟩
    (try clear HO154)
    (try clear BK136)
    (try clear BK137)
    (try clear BK148)
    (try clear HI141)
    (try clear HB)
    generalize (w24.setCell ⟨gb148, 0, none⟩ (.int .i64 (rd y152 t155))) = w27 at n0_ n1_ n2_ n3_ n4_ n5_ ⊢
    have HO154 := n0_
    have BK136 := n1_
    have BK137 := n2_
    have BK148 := n3_
    have HI141 := n4_
    have HB := n5_
    clear n0_ n1_ n2_ n3_ n4_ n5_
    have n0_ := am (Kd.R_drew HO154.out)
    have n1_ := am (k3 BK136.out)
    have n2_ := am (k3 BK137.out)
    have n3_ := am (k3 BK148.out)
    have n4_ := am (IsS75.drew HI141.out)
    have n5_ := am (b3 HB.out)
    clear HO154
    clear BK136
    clear BK137
    clear BK148
    clear HI141
    clear HB
    have HO154 := n0_
    have BK136 := n1_
    have BK137 := n2_
    have BK148 := n3_
    have HI141 := n4_
    have HB := n5_
    clear n0_ n1_ n2_ n3_ n4_ n5_
    refine start_ (n := 5) (S := fun w' => w'.cell? ⟨gb148, 0, none⟩ = some (.int .i64 (rd y152 t155)) ∧ w'.cell? ⟨gb148, 1, none⟩ = some (.int .i64 (wrap64 (t145 - 10)))) (ds := []) #[false, false, false, false, false] (by kernel_rfl) rfl rfl ⟨(kc BK148.out 0).trans rfl, (kc BK148.out 1).trans rfl⟩ (fun hHeld => ?_)
    generalize w27.drew = w28 at HO154 BK136 BK137 BK148 HI141 HB hHeld ⊢
    refine pure_ (i := 1) (N := some 25) (v := ?_) (a' := ?_) #[false, true, false, false, false] rfl rfl (by kernel_rfl) (fun _ _ _ h => h) (Or.inl ⟨by rfl, ?_⟩) ?_ ?_
    rotate_left
    ·intro w'
     go_simp
     with_reducible rfl
    rotate_left
    ·simp only [Act.put, sa, i64_w, i32_w]
     rfl
    refine take_ (i := 0) (N := some 24) (v := ?_) (a' := ?_) #[true, true, false, false, false] rfl rfl (by kernel_rfl) (fun _ _ _ h => h) (Or.inl ⟨by rfl, ?_⟩) hHeld ?_ ?_
    rotate_left
    ·rintro w' ⟨s0, s1⟩
     go_simp
     with_reducible rfl
    rotate_left
    ·simp only [Act.put, sa, i64_w, i32_w]
     rfl
    refine one_ (i := 2) (N := some 26) #[true, true, true, false, false] rfl rfl (by kernel_rfl) (by decide) (fun K hK => ?_)
    refine goes_ Try.func35 (by kernel_rfl) rfl #[.pointer (some ⟨g141, 0, none⟩)] (by rfl) rfl rfl (by (try simp only [List.map_toArray, List.map_cons, List.map_nil]); first | done | rfl | (simp only [List.length_drop, List.length_take]; rfl)) ?_
    with_reducible refine (spec_l24Draw.calls g141 t138 t156 t157 t159 t160 t161 t162 t163 w _ ?side1 ?side2 A10.out).mono ?_
    (case side1 => repeat (first | (with_reducible first | exact HI141.out | apply IsS75.alloc | apply IsS75.drewN | apply IsS75.drew | apply IsS75.set_1 | apply IsS75.set_2 | refine IsS75.far ?_ NB141_136.out _ | refine IsS75.far ?_ NB141_137.out _ | refine IsS75.far ?_ NB141_148.out _) | exact HI141.out))
    (case side2 => repeat (first | (with_reducible first | exact HB.out | apply b1 | apply b2 | apply b3 | refine b4 ?_ (IsS75.ge HI141.out) | refine b4 ?_ GE136.out | refine b4 ?_ GE137.out | refine b4 ?_ GE148.out) | exact HB.out))
    rintro e w29 ⟨rfl, hi, hb, hk⟩
    refine ⟨_, rfl, ?_⟩
    have n0_ := am (KeepBut.blk hk (g' := gb136) (o := .cells #[.int .i64 0, .int .i64 0] 37 (0, 0)) (by (with_reducible repeat (first | refine k2 ?_ _ | refine k3 ?_ | refine k1 ?_ _)); exact BK136.out) NB136_141.out (by simp))
    have n1_ := am (KeepBut.blk hk (g' := gb137) (o := .cells #[.int .i64 0, .int .i64 0, .int .i64 0] 30 (0, 0)) (by (with_reducible repeat (first | refine k2 ?_ _ | refine k3 ?_ | refine k1 ?_ _)); exact BK137.out) NB137_141.out (by simp))
    have n2_ := am (KeepBut.blk hk (g' := gb148) (o := .cells #[.int .i64 (rd y152 t155), .int .i64 (wrap64 (t145 - 10))] 37 (0, 0)) (by (with_reducible repeat (first | refine k2 ?_ _ | refine k3 ?_ | refine k1 ?_ _)); exact BK148.out) NB148_141.out (by simp))
    have n3_ := am (Kd.R_mono (Kd.R_keep (IsS75.apart (show IsS75 w _ g141 t138 t156 t157 from by repeat (first | (with_reducible first | exact HI141.out | apply IsS75.alloc | apply IsS75.drewN | apply IsS75.drew | apply IsS75.set_1 | apply IsS75.set_2 | refine IsS75.far ?_ NB141_136.out _ | refine IsS75.far ?_ NB141_137.out _ | refine IsS75.far ?_ NB141_148.out _) | exact HI141.out)) (by (with_reducible repeat (first | apply Kd.R_alloc | apply Kd.R_drewN | apply Kd.R_drew)); exact HO154.out) (by decide)) hk (fun _ h => h.2)) (fun _ h => h.1))
    have n4_ := am (hb)
    have n5_ := am (hi)
    clear BK136
    clear BK137
    clear BK148
    clear HO154
    clear HB
    clear HI141
    have BK136 := n0_
    have BK137 := n1_
    have BK148 := n2_
    have HO154 := n3_
    have HB := n4_
    have HI141 := n5_
    clear n0_ n1_ n2_ n3_ n4_ n5_
    (try clear hb)
    (try clear hb2)
    (try clear hk)
    (try clear hi)
    refine hK.out _ _ ⟨(kc BK148.out 0).trans rfl, (kc BK148.out 1).trans rfl⟩ (fun hHeld => ?_)
    clear hK K
    refine norm_ (a' := ?_) ?_ ?_
    rotate_left
    ·show Act.put _ (some 26) _ = _
     simp only [Act.put, sa, i64_w, i32_w]
     rfl
    refine one_ (i := 3) (N := none) #[true, true, true, true, false] rfl rfl (by kernel_rfl) (by decide) (fun K hK => ?_)
    have hs30 : w29.cell? ⟨gb136, 0, none⟩ = some (.int .i64 0) := (kc BK136.out 0).trans rfl
    have hfs30 := kf BK136.out 0
    have hns30_1 := NB137_136.out
    have hns30_2 := NB148_136.out
    have hms30_1 := NB136_137.out
    have hms30_2 := NB136_148.out
    have hs31 : w29.cell? ⟨gb136, 1, none⟩ = some (.int .i64 0) := (kc BK136.out 1).trans rfl
    have hfs31 := kf BK136.out 1
    have hns31_1 := NB137_136.out
    have hns31_2 := NB148_136.out
    have hms31_1 := NB136_137.out
    have hms31_2 := NB136_148.out
    refine skip_ (w1 := ?_) (by rfl) rfl ?_ ?_
    rotate_left
    ·go_simp
     rfl
    refine hK.out _ _ ⟨((cell_far (p := ⟨gb136, _, none⟩) NB148_136.out _).trans (((cell_far (p := ⟨gb136, _, none⟩) NB148_136.out _).trans (hHeld.1)))), ((cell_far (p := ⟨gb136, _, none⟩) NB148_136.out _).trans (((cell_far (p := ⟨gb136, _, none⟩) NB148_136.out _).trans (hHeld.2))))⟩ (fun hHeld => ?_)
    clear hK K
    refine one_ (i := 4) (N := none) #[true, true, true, true, true] rfl rfl (by kernel_rfl) (by decide) (fun K hK => ?_)
    have hs32 : w29.cell? ⟨gb137, 0, none⟩ = some (.int .i64 0) := (kc BK137.out 0).trans rfl
    have hfs32 := kf BK137.out 0
    have hns32_0 := NB136_137.out
    have hns32_2 := NB148_137.out
    have hms32_0 := NB137_136.out
    have hms32_2 := NB137_148.out
    have hs33 : w29.cell? ⟨gb137, 1, none⟩ = some (.int .i64 0) := (kc BK137.out 1).trans rfl
    have hfs33 := kf BK137.out 1
    have hns33_0 := NB136_137.out
    have hns33_2 := NB148_137.out
    have hms33_0 := NB137_136.out
    have hms33_2 := NB137_148.out
    have hs34 : w29.cell? ⟨gb137, 2, none⟩ = some (.int .i64 0) := (kc BK137.out 2).trans rfl
    have hfs34 := kf BK137.out 2
    have hns34_0 := NB136_137.out
    have hns34_2 := NB148_137.out
    have hms34_0 := NB137_136.out
    have hms34_2 := NB137_148.out
    refine skip_ (w1 := ?_) (by rfl) rfl ?_ ?_
    rotate_left
    ·go_simp
     rfl
    refine hK.out _ _ ⟨((cell_far (p := ⟨gb137, _, none⟩) NB148_137.out _).trans (((cell_far (p := ⟨gb137, _, none⟩) NB148_137.out _).trans (((cell_far (p := ⟨gb137, _, none⟩) NB148_137.out _).trans (hHeld.1)))))), ((cell_far (p := ⟨gb137, _, none⟩) NB148_137.out _).trans (((cell_far (p := ⟨gb137, _, none⟩) NB148_137.out _).trans (((cell_far (p := ⟨gb137, _, none⟩) NB148_137.out _).trans (hHeld.2))))))⟩ (fun hHeld => ?_)
    clear hK K
    refine done_ (by kernel_rfl) ?_
    try go_wp2
    refine bodyPost_ret (results_cc rfl _ _ gb136 gb137 37 30 #[.int .i64 (rd y152 t155), .int .i64 (wrap64 (t145 - 10))] #[.int .i64 t159, .int .i64 t160, .int .i64 t161] (0, 0) (0, 0) _ _ rfl (by (with_reducible repeat (first | refine k2 ?_ _ | refine k3 ?_ | refine k1 ?_ _)); refine blk_far ?_ NB136_137.out _; (with_reducible repeat (first | refine k2 ?_ _ | refine k3 ?_ | refine k1 ?_ _)); refine blk_far ?_ NB136_137.out _; (with_reducible repeat (first | refine k2 ?_ _ | refine k3 ?_ | refine k1 ?_ _)); refine blk_far ?_ NB136_137.out _; (with_reducible repeat (first | refine k2 ?_ _ | refine k3 ?_ | refine k1 ?_ _)); refine blk_put (cs := #[.int .i64 (rd y152 t155), .int .i64 0]) ?_ 1 _ rfl; (with_reducible repeat (first | refine k2 ?_ _ | refine k3 ?_ | refine k1 ?_ _)); refine blk_put (cs := #[.int .i64 0, .int .i64 0]) ?_ 0 _ rfl; (with_reducible repeat (first | refine k2 ?_ _ | refine k3 ?_ | refine k1 ?_ _)); exact BK136.out) Try.underlying37 rfl (by kernel_rfl) rfl (by (with_reducible repeat (first | refine k2 ?_ _ | refine k3 ?_ | refine k1 ?_ _)); refine blk_put (cs := #[.int .i64 t159, .int .i64 t160, .int .i64 0]) ?_ 2 _ rfl; (with_reducible repeat (first | refine k2 ?_ _ | refine k3 ?_ | refine k1 ?_ _)); refine blk_put (cs := #[.int .i64 t159, .int .i64 0, .int .i64 0]) ?_ 1 _ rfl; (with_reducible repeat (first | refine k2 ?_ _ | refine k3 ?_ | refine k1 ?_ _)); refine blk_put (cs := #[.int .i64 0, .int .i64 0, .int .i64 0]) ?_ 0 _ rfl; (with_reducible repeat (first | refine k2 ?_ _ | refine k3 ?_ | refine k1 ?_ _)); refine blk_far ?_ NB137_136.out _; (with_reducible repeat (first | refine k2 ?_ _ | refine k3 ?_ | refine k1 ?_ _)); refine blk_far ?_ NB137_136.out _; (with_reducible repeat (first | refine k2 ?_ _ | refine k3 ?_ | refine k1 ?_ _)); exact BK137.out) Try.underlying30 rfl (by kernel_rfl)) rfl ?_
    exact ⟨by first | rfl | (simp [errW_none, errW_some] <;> rfl) | (simp [*, errW_none, errW_some] <;> rfl), by repeat (first | (with_reducible first | exact HB.out | apply b1 | apply b2 | apply b3 | refine b4 ?_ (IsS75.ge HI141.out) | refine b4 ?_ GE136.out | refine b4 ?_ GE137.out | refine b4 ?_ GE148.out) | exact HB.out)⟩
   ·rw [if_neg c9] at H
    exact absurd H (by simp)
  ·rw [if_neg c8] at H
   exact absurd H (by simp)
 ·rw [if_neg c6] at H
  have c6b0 : (t149 == 0) = false := beq_eq_false_iff_ne.mpr c6
  have c6b1 : (t149 != 0) = true := bne_iff_ne.mpr c6
  replace H := ob H
  obtain ⟨⟨t164, t165, t166, t167, t168⟩, A350, H⟩ := H
  replace H : (some (wrap64 (t142 - 10), wrap64 (t145 - 10), t164, t165, t166)) = some (r1, r2, r3, r4, r5) := H
  have A35 := am A350
  clear A350
  simp only [Option.some.injEq, Prod.mk.injEq] at H
  obtain ⟨rfl, rfl, rfl, rfl, rfl⟩ := H
  go_enter Try.func13, Try.ntmps13
  try go_wp2_with (first | ((with_reducible refine gate_dst (N := 2) rfl ?_); refine box_event ?hg (N := 2) ?hd (cs := #[.int .i64 0, .int .i64 0]) (t := 37) ?hr ?_; (case hd => rfl); (case hg => rfl); (case hr => first | (go_simp; done) | (go_simp; rfl)); intro gb136 hg w36 hbox hb; have n0_ := am (b6 (by repeat (first | (with_reducible first | exact HB.out | apply b1 | apply b2 | apply b3) | exact HB.out)) hb); have n1_ := am (hbox); have n2_ := am ((by rw [hg]; exact (b5 (by repeat (first | (with_reducible first | exact HB.out | apply b1 | apply b2 | apply b3) | exact HB.out))) : w.heap.size ≤ gb136)); have n3_ := n2_; clear HB; have HB := n0_; have BK136 := n1_; have GW136 := n2_; have GE136 := n3_; clear n0_ n1_ n2_ n3_; clear hb hbox hg) | ((with_reducible refine gate_dst (N := 3) rfl ?_); refine box_event ?hg (N := 3) ?hd (cs := #[.int .i64 0, .int .i64 0, .int .i64 0]) (t := 30) ?hr ?_; (case hd => rfl); (case hg => rfl); (case hr => first | (go_simp; done) | (go_simp; rfl)); intro gb137 hg w37 hbox hb; have n0_ := am (k4 (g := gb136) (o := .cells #[.int .i64 0, .int .i64 0] 37 (0, 0)) (by (with_reducible repeat (first | refine k2 ?_ _ | refine k3 ?_ | refine k1 ?_ _)); exact BK136.out) hb); have n1_ := am (b6 (by repeat (first | (with_reducible first | exact HB.out | apply b1 | apply b2 | apply b3 | refine b4 ?_ GE136.out) | exact HB.out)) hb); have n2_ := am (hbox); have n3_ := am ((by rw [hg]; exact (b5 (by repeat (first | (with_reducible first | exact HB.out | apply b1 | apply b2 | apply b3 | refine b4 ?_ GE136.out) | exact HB.out))) : w.heap.size ≤ gb137)); have n4_ := n3_; have n5_ := am ((by rw [hg]; exact nl (k5 (g := gb136) (o := .cells #[.int .i64 0, .int .i64 0] 37 (0, 0)) (by (with_reducible repeat (first | refine k2 ?_ _ | refine k3 ?_ | refine k1 ?_ _)); exact BK136.out)) : gb136 ≠ gb137)); have n6_ := am ((by rw [hg]; exact ng (k5 (g := gb136) (o := .cells #[.int .i64 0, .int .i64 0] 37 (0, 0)) (by (with_reducible repeat (first | refine k2 ?_ _ | refine k3 ?_ | refine k1 ?_ _)); exact BK136.out)) : gb137 ≠ gb136)); clear BK136; clear HB; have BK136 := n0_; have HB := n1_; have BK137 := n2_; have GW137 := n3_; have GE137 := n4_; have NB136_137 := n5_; have NB137_136 := n6_; clear n0_ n1_ n2_ n3_ n4_ n5_ n6_; clear hb hbox hg) | ((with_reducible refine gate_callee (f := 33) rfl ?_); refine goesL_ (some 7) rfl rfl Try.func33 (by kernel_rfl) rfl #[.slice A0 l0.length c0] rfl (by (try simp only [List.map_toArray, List.map_cons, List.map_nil]); first | done | rfl | (simp only [List.length_drop, List.length_take]; rfl)) ?_; (with_reducible refine (spec_l01From.calls _ _ l0 t138 t139 t140 w _ ?side1 ?side2 ?side3 A2.out).mono ?_); (case side1 => repeat (first | (with_reducible first | exact HB.out | apply b1 | apply b2 | apply b3 | refine b4 ?_ GE136.out | refine b4 ?_ GE137.out) | exact HB.out)); (case side2 => exact HR0.out); (case side3 => exact HC0.out); rintro e w38 ⟨g141, rfl, hi, hb, hb2⟩; refine ⟨_, rfl, ?_⟩; have n0_ := am (k4 (g := gb136) (o := .cells #[.int .i64 0, .int .i64 0] 37 (0, 0)) (by (with_reducible repeat (first | refine k2 ?_ _ | refine k3 ?_ | refine k1 ?_ _)); exact BK136.out) hb2); have n1_ := am (k4 (g := gb137) (o := .cells #[.int .i64 0, .int .i64 0, .int .i64 0] 30 (0, 0)) (by (with_reducible repeat (first | refine k2 ?_ _ | refine k3 ?_ | refine k1 ?_ _)); exact BK137.out) hb2); have n2_ := am (hb); have n3_ := am (hi); have n4_ := am (IsS75.ne_blk hi (k4 (g := gb136) (o := .cells #[.int .i64 0, .int .i64 0] 37 (0, 0)) (by (with_reducible repeat (first | refine k2 ?_ _ | refine k3 ?_ | refine k1 ?_ _)); exact BK136.out) hb2) (by decide)); have n5_ := am (Ne.symm (IsS75.ne_blk hi (k4 (g := gb136) (o := .cells #[.int .i64 0, .int .i64 0] 37 (0, 0)) (by (with_reducible repeat (first | refine k2 ?_ _ | refine k3 ?_ | refine k1 ?_ _)); exact BK136.out) hb2) (by decide))); have n6_ := am (IsS75.ne_blk hi (k4 (g := gb137) (o := .cells #[.int .i64 0, .int .i64 0, .int .i64 0] 30 (0, 0)) (by (with_reducible repeat (first | refine k2 ?_ _ | refine k3 ?_ | refine k1 ?_ _)); exact BK137.out) hb2) (by decide)); have n7_ := am (Ne.symm (IsS75.ne_blk hi (k4 (g := gb137) (o := .cells #[.int .i64 0, .int .i64 0, .int .i64 0] 30 (0, 0)) (by (with_reducible repeat (first | refine k2 ?_ _ | refine k3 ?_ | refine k1 ?_ _)); exact BK137.out) hb2) (by decide))); clear BK136; clear BK137; clear HB; have BK136 := n0_; have BK137 := n1_; have HB := n2_; have HI141 := n3_; have NB141_136 := n4_; have NB136_141 := n5_; have NB141_137 := n6_; have NB137_141 := n7_; clear n0_ n1_ n2_ n3_ n4_ n5_ n6_ n7_; (try clear hb); (try clear hb2); (try clear hk); (try clear hi)) | ((with_reducible refine gate_callee (f := 34) rfl ?_); refine goesL_ (some 9) rfl rfl Try.func34 (by kernel_rfl) rfl #[.pointer (some ⟨g141, 0, none⟩), .int .i64 21] rfl (by (try simp only [List.map_toArray, List.map_cons, List.map_nil]); first | done | rfl | (simp only [List.length_drop, List.length_take]; rfl)) ?_; (with_reducible refine (spec_l01Next.calls g141 t138 t139 t140 21 t142 t143 t144 w _ ?side1 ?side2 A3.out).mono ?_); (case side1 => repeat (first | (with_reducible first | exact HI141.out | apply IsS75.alloc | apply IsS75.drewN | apply IsS75.drew | apply IsS75.set_1 | apply IsS75.set_2 | refine IsS75.far ?_ NB141_136.out _ | refine IsS75.far ?_ NB141_137.out _) | exact HI141.out)); (case side2 => repeat (first | (with_reducible first | exact HB.out | apply b1 | apply b2 | apply b3 | refine b4 ?_ (IsS75.ge HI141.out) | refine b4 ?_ GE136.out | refine b4 ?_ GE137.out) | exact HB.out)); rintro e w39 ⟨rfl, hi, hb, hk⟩; refine ⟨_, rfl, ?_⟩; have n0_ := am (KeepBut.blk hk (g' := gb136) (o := .cells #[.int .i64 0, .int .i64 0] 37 (0, 0)) (by (with_reducible repeat (first | refine k2 ?_ _ | refine k3 ?_ | refine k1 ?_ _)); exact BK136.out) NB136_141.out (by simp)); have n1_ := am (KeepBut.blk hk (g' := gb137) (o := .cells #[.int .i64 0, .int .i64 0, .int .i64 0] 30 (0, 0)) (by (with_reducible repeat (first | refine k2 ?_ _ | refine k3 ?_ | refine k1 ?_ _)); exact BK137.out) NB137_141.out (by simp)); have n2_ := am (hb); have n3_ := am (hi); clear BK136; clear BK137; clear HB; clear HI141; have BK136 := n0_; have BK137 := n1_; have HB := n2_; have HI141 := n3_; clear n0_ n1_ n2_ n3_; (try clear hb); (try clear hb2); (try clear hk); (try clear hi)) | ((with_reducible refine gate_callee (f := 34) rfl ?_); refine goesL_ (some 12) rfl rfl Try.func34 (by kernel_rfl) rfl #[.pointer (some ⟨g141, 0, none⟩), .int .i64 21] rfl (by (try simp only [List.map_toArray, List.map_cons, List.map_nil]); first | done | rfl | (simp only [List.length_drop, List.length_take]; rfl)) ?_; (with_reducible refine (spec_l01Next.calls g141 t138 t143 t144 21 t145 t146 t147 w _ ?side1 ?side2 A4.out).mono ?_); (case side1 => repeat (first | (with_reducible first | exact HI141.out | apply IsS75.alloc | apply IsS75.drewN | apply IsS75.drew | apply IsS75.set_1 | apply IsS75.set_2 | refine IsS75.far ?_ NB141_136.out _ | refine IsS75.far ?_ NB141_137.out _) | exact HI141.out)); (case side2 => repeat (first | (with_reducible first | exact HB.out | apply b1 | apply b2 | apply b3 | refine b4 ?_ (IsS75.ge HI141.out) | refine b4 ?_ GE136.out | refine b4 ?_ GE137.out) | exact HB.out)); rintro e w40 ⟨rfl, hi, hb, hk⟩; refine ⟨_, rfl, ?_⟩; have n0_ := am (KeepBut.blk hk (g' := gb136) (o := .cells #[.int .i64 0, .int .i64 0] 37 (0, 0)) (by (with_reducible repeat (first | refine k2 ?_ _ | refine k3 ?_ | refine k1 ?_ _)); exact BK136.out) NB136_141.out (by simp)); have n1_ := am (KeepBut.blk hk (g' := gb137) (o := .cells #[.int .i64 0, .int .i64 0, .int .i64 0] 30 (0, 0)) (by (with_reducible repeat (first | refine k2 ?_ _ | refine k3 ?_ | refine k1 ?_ _)); exact BK137.out) NB137_141.out (by simp)); have n2_ := am (hb); have n3_ := am (hi); clear BK136; clear BK137; clear HB; clear HI141; have BK136 := n0_; have BK137 := n1_; have HB := n2_; have HI141 := n3_; clear n0_ n1_ n2_ n3_; (try clear hb); (try clear hb2); (try clear hk); (try clear hi)) | ((with_reducible refine gate_dst (N := 5) rfl ?_); refine box_event ?hg (N := 5) ?hd (cs := #[.int .i64 0, .int .i64 0]) (t := 37) ?hr ?_; (case hd => rfl); (case hg => rfl); (case hr => first | (go_simp; done) | (go_simp; rfl)); intro gb148 hg w41 hbox hb; have n0_ := am (k4 (g := gb136) (o := .cells #[.int .i64 0, .int .i64 0] 37 (0, 0)) (by (with_reducible repeat (first | refine k2 ?_ _ | refine k3 ?_ | refine k1 ?_ _)); exact BK136.out) hb); have n1_ := am (k4 (g := gb137) (o := .cells #[.int .i64 0, .int .i64 0, .int .i64 0] 30 (0, 0)) (by (with_reducible repeat (first | refine k2 ?_ _ | refine k3 ?_ | refine k1 ?_ _)); exact BK137.out) hb); have n2_ := am (IsS75.below (by repeat (first | (with_reducible first | exact HI141.out | apply IsS75.alloc | apply IsS75.drewN | apply IsS75.drew | apply IsS75.set_1 | apply IsS75.set_2 | refine IsS75.far ?_ NB141_136.out _ | refine IsS75.far ?_ NB141_137.out _) | exact HI141.out)) hb); have n3_ := am (b6 (by repeat (first | (with_reducible first | exact HB.out | apply b1 | apply b2 | apply b3 | refine b4 ?_ (IsS75.ge HI141.out) | refine b4 ?_ GE136.out | refine b4 ?_ GE137.out) | exact HB.out)) hb); have n4_ := am (hbox); have n5_ := am ((by rw [hg]; exact (b5 (by repeat (first | (with_reducible first | exact HB.out | apply b1 | apply b2 | apply b3 | refine b4 ?_ (IsS75.ge HI141.out) | refine b4 ?_ GE136.out | refine b4 ?_ GE137.out) | exact HB.out))) : w.heap.size ≤ gb148)); have n6_ := n5_; have n7_ := am ((by rw [hg]; exact nl (k5 (g := gb136) (o := .cells #[.int .i64 0, .int .i64 0] 37 (0, 0)) (by (with_reducible repeat (first | refine k2 ?_ _ | refine k3 ?_ | refine k1 ?_ _)); exact BK136.out)) : gb136 ≠ gb148)); have n8_ := am ((by rw [hg]; exact ng (k5 (g := gb136) (o := .cells #[.int .i64 0, .int .i64 0] 37 (0, 0)) (by (with_reducible repeat (first | refine k2 ?_ _ | refine k3 ?_ | refine k1 ?_ _)); exact BK136.out)) : gb148 ≠ gb136)); have n9_ := am ((by rw [hg]; exact nl (k5 (g := gb137) (o := .cells #[.int .i64 0, .int .i64 0, .int .i64 0] 30 (0, 0)) (by (with_reducible repeat (first | refine k2 ?_ _ | refine k3 ?_ | refine k1 ?_ _)); exact BK137.out)) : gb137 ≠ gb148)); have n10_ := am ((by rw [hg]; exact ng (k5 (g := gb137) (o := .cells #[.int .i64 0, .int .i64 0, .int .i64 0] 30 (0, 0)) (by (with_reducible repeat (first | refine k2 ?_ _ | refine k3 ?_ | refine k1 ?_ _)); exact BK137.out)) : gb148 ≠ gb137)); have n11_ := am ((by rw [hg]; exact nl (IsS75.lt (show IsS75 w _ g141 t138 t146 t147 from by repeat (first | (with_reducible first | exact HI141.out | apply IsS75.alloc | apply IsS75.drewN | apply IsS75.drew | apply IsS75.set_1 | apply IsS75.set_2 | refine IsS75.far ?_ NB141_136.out _ | refine IsS75.far ?_ NB141_137.out _) | exact HI141.out))) : g141 ≠ gb148)); have n12_ := am ((by rw [hg]; exact ng (IsS75.lt (show IsS75 w _ g141 t138 t146 t147 from by repeat (first | (with_reducible first | exact HI141.out | apply IsS75.alloc | apply IsS75.drewN | apply IsS75.drew | apply IsS75.set_1 | apply IsS75.set_2 | refine IsS75.far ?_ NB141_136.out _ | refine IsS75.far ?_ NB141_137.out _) | exact HI141.out))) : gb148 ≠ g141)); clear BK136; clear BK137; clear HI141; clear HB; have BK136 := n0_; have BK137 := n1_; have HI141 := n2_; have HB := n3_; have BK148 := n4_; have GW148 := n5_; have GE148 := n6_; have NB136_148 := n7_; have NB148_136 := n8_; have NB137_148 := n9_; have NB148_137 := n10_; have NB141_148 := n11_; have NB148_141 := n12_; clear n0_ n1_ n2_ n3_ n4_ n5_ n6_ n7_ n8_ n9_ n10_ n11_ n12_; clear hb hbox hg; have hnb42 := NB148_136.out; have hnc42 := NB136_148.out; have hnb43 := NB148_137.out; have hnc43 := NB137_148.out; have hnb44 := NB148_141.out; have hnc44 := NB141_148.out; have hcz45_0 : w41.cell? ⟨gb148, 0, none⟩ = some (.int .i64 0) := (kc BK148.out 0).trans rfl; have hcz45_1 : w41.cell? ⟨gb148, 1, none⟩ = some (.int .i64 0) := (kc BK148.out 1).trans rfl; have hfz45_0 := kf BK148.out 0; have hfz45_1 := kf BK148.out 1) | ((with_reducible refine gate_callee (f := 34) rfl ?_); refine goesL_ (some 16) rfl rfl Try.func34 (by kernel_rfl) rfl #[.pointer (some ⟨g141, 0, none⟩), .int .i64 16] rfl (by (try simp only [List.map_toArray, List.map_cons, List.map_nil]); first | done | rfl | (simp only [List.length_drop, List.length_take]; rfl)) ?_; (with_reducible refine (spec_l01Next.calls g141 t138 t146 t147 16 t149 t150 t151 w _ ?side1 ?side2 A5.out).mono ?_); (case side1 => repeat (first | (with_reducible first | exact HI141.out | apply IsS75.alloc | apply IsS75.drewN | apply IsS75.drew | apply IsS75.set_1 | apply IsS75.set_2 | refine IsS75.far ?_ NB141_136.out _ | refine IsS75.far ?_ NB141_137.out _ | refine IsS75.far ?_ NB141_148.out _) | exact HI141.out)); (case side2 => repeat (first | (with_reducible first | exact HB.out | apply b1 | apply b2 | apply b3 | refine b4 ?_ (IsS75.ge HI141.out) | refine b4 ?_ GE136.out | refine b4 ?_ GE137.out | refine b4 ?_ GE148.out) | exact HB.out)); rintro e w46 ⟨rfl, hi, hb, hk⟩; refine ⟨_, rfl, ?_⟩; have n0_ := am (KeepBut.blk hk (g' := gb136) (o := .cells #[.int .i64 0, .int .i64 0] 37 (0, 0)) (by (with_reducible repeat (first | refine k2 ?_ _ | refine k3 ?_ | refine k1 ?_ _)); refine blk_far ?_ NB136_148.out _; (with_reducible repeat (first | refine k2 ?_ _ | refine k3 ?_ | refine k1 ?_ _)); refine blk_far ?_ NB136_148.out _; (with_reducible repeat (first | refine k2 ?_ _ | refine k3 ?_ | refine k1 ?_ _)); exact BK136.out) NB136_141.out (by simp)); have n1_ := am (KeepBut.blk hk (g' := gb137) (o := .cells #[.int .i64 0, .int .i64 0, .int .i64 0] 30 (0, 0)) (by (with_reducible repeat (first | refine k2 ?_ _ | refine k3 ?_ | refine k1 ?_ _)); refine blk_far ?_ NB137_148.out _; (with_reducible repeat (first | refine k2 ?_ _ | refine k3 ?_ | refine k1 ?_ _)); refine blk_far ?_ NB137_148.out _; (with_reducible repeat (first | refine k2 ?_ _ | refine k3 ?_ | refine k1 ?_ _)); exact BK137.out) NB137_141.out (by simp)); have n2_ := am (KeepBut.blk hk (g' := gb148) (o := .cells #[.int .i64 (wrap64 (t142 - 10)), .int .i64 (wrap64 (t145 - 10))] 37 (0, 0)) (by (with_reducible repeat (first | refine k2 ?_ _ | refine k3 ?_ | refine k1 ?_ _)); refine blk_put (cs := #[.int .i64 (wrap64 (t142 - 10)), .int .i64 0]) ?_ 1 _ rfl; (with_reducible repeat (first | refine k2 ?_ _ | refine k3 ?_ | refine k1 ?_ _)); refine blk_put (cs := #[.int .i64 0, .int .i64 0]) ?_ 0 _ rfl; (with_reducible repeat (first | refine k2 ?_ _ | refine k3 ?_ | refine k1 ?_ _)); exact BK148.out) NB148_141.out (by simp)); have n3_ := am (hb); have n4_ := am (hi); clear BK136; clear BK137; clear BK148; clear HB; clear HI141; have BK136 := n0_; have BK137 := n1_; have BK148 := n2_; have HB := n3_; have HI141 := n4_; clear n0_ n1_ n2_ n3_ n4_; (try clear hb); (try clear hb2); (try clear hk); (try clear hi)))
  have n0_ := am (k3 BK136.out)
  have n1_ := am (k3 BK137.out)
  have n2_ := am (k3 BK148.out)
  have n3_ := am (IsS75.drew HI141.out)
  have n4_ := am (b3 HB.out)
  clear BK136
  clear BK137
  clear BK148
  clear HI141
  clear HB
  have BK136 := n0_
  have BK137 := n1_
  have BK148 := n2_
  have HI141 := n3_
  have HB := n4_
  clear n0_ n1_ n2_ n3_ n4_
  refine start_ (n := 5) (S := fun w' => w'.cell? ⟨gb148, 0, none⟩ = some (.int .i64 (wrap64 (t142 - 10))) ∧ w'.cell? ⟨gb148, 1, none⟩ = some (.int .i64 (wrap64 (t145 - 10)))) (ds := []) #[false, false, false, false, false] (by kernel_rfl) rfl rfl ⟨(kc BK148.out 0).trans rfl, (kc BK148.out 1).trans rfl⟩ (fun hHeld => ?_)
  generalize w46.drew = w47 at BK136 BK137 BK148 HI141 HB hHeld ⊢
  refine pure_ (i := 1) (N := some 25) (v := ?_) (a' := ?_) #[false, true, false, false, false] rfl rfl (by kernel_rfl) (fun _ _ _ h => h) (Or.inl ⟨by rfl, ?_⟩) ?_ ?_
  rotate_left
  ·intro w'
   go_simp
   with_reducible rfl
  rotate_left
  ·simp only [Act.put, sa, i64_w, i32_w]
   rfl
  refine take_ (i := 0) (N := some 24) (v := ?_) (a' := ?_) #[true, true, false, false, false] rfl rfl (by kernel_rfl) (fun _ _ _ h => h) (Or.inl ⟨by rfl, ?_⟩) hHeld ?_ ?_
  rotate_left
  ·rintro w' ⟨s0, s1⟩
   go_simp
   with_reducible rfl
  rotate_left
  ·simp only [Act.put, sa, i64_w, i32_w]
   rfl
  refine one_ (i := 2) (N := some 26) #[true, true, true, false, false] rfl rfl (by kernel_rfl) (by decide) (fun K hK => ?_)
  refine goes_ Try.func35 (by kernel_rfl) rfl #[.pointer (some ⟨g141, 0, none⟩)] (by rfl) rfl rfl (by (try simp only [List.map_toArray, List.map_cons, List.map_nil]); first | done | rfl | (simp only [List.length_drop, List.length_take]; rfl)) ?_
  with_reducible refine (spec_l24Draw.calls g141 t138 t150 t151 t164 t165 t166 t167 t168 w _ ?side1 ?side2 A35.out).mono ?_
  (case side1 => repeat (first | (with_reducible first | exact HI141.out | apply IsS75.alloc | apply IsS75.drewN | apply IsS75.drew | apply IsS75.set_1 | apply IsS75.set_2 | refine IsS75.far ?_ NB141_136.out _ | refine IsS75.far ?_ NB141_137.out _ | refine IsS75.far ?_ NB141_148.out _) | exact HI141.out))
  (case side2 => repeat (first | (with_reducible first | exact HB.out | apply b1 | apply b2 | apply b3 | refine b4 ?_ (IsS75.ge HI141.out) | refine b4 ?_ GE136.out | refine b4 ?_ GE137.out | refine b4 ?_ GE148.out) | exact HB.out))
  rintro e w48 ⟨rfl, hi, hb, hk⟩
  refine ⟨_, rfl, ?_⟩
  have n0_ := am (KeepBut.blk hk (g' := gb136) (o := .cells #[.int .i64 0, .int .i64 0] 37 (0, 0)) (by (with_reducible repeat (first | refine k2 ?_ _ | refine k3 ?_ | refine k1 ?_ _)); exact BK136.out) NB136_141.out (by simp))
  have n1_ := am (KeepBut.blk hk (g' := gb137) (o := .cells #[.int .i64 0, .int .i64 0, .int .i64 0] 30 (0, 0)) (by (with_reducible repeat (first | refine k2 ?_ _ | refine k3 ?_ | refine k1 ?_ _)); exact BK137.out) NB137_141.out (by simp))
  have n2_ := am (KeepBut.blk hk (g' := gb148) (o := .cells #[.int .i64 (wrap64 (t142 - 10)), .int .i64 (wrap64 (t145 - 10))] 37 (0, 0)) (by (with_reducible repeat (first | refine k2 ?_ _ | refine k3 ?_ | refine k1 ?_ _)); exact BK148.out) NB148_141.out (by simp))
  have n3_ := am (hb)
  have n4_ := am (hi)
  clear BK136
  clear BK137
  clear BK148
  clear HB
  clear HI141
  have BK136 := n0_
  have BK137 := n1_
  have BK148 := n2_
  have HB := n3_
  have HI141 := n4_
  clear n0_ n1_ n2_ n3_ n4_
  (try clear hb)
  (try clear hb2)
  (try clear hk)
  (try clear hi)
  refine hK.out _ _ ⟨(kc BK148.out 0).trans rfl, (kc BK148.out 1).trans rfl⟩ (fun hHeld => ?_)
  clear hK K
  refine norm_ (a' := ?_) ?_ ?_
  rotate_left
  ·show Act.put _ (some 26) _ = _
   simp only [Act.put, sa, i64_w, i32_w]
   rfl
  refine one_ (i := 3) (N := none) #[true, true, true, true, false] rfl rfl (by kernel_rfl) (by decide) (fun K hK => ?_)
  have hs49 : w48.cell? ⟨gb136, 0, none⟩ = some (.int .i64 0) := (kc BK136.out 0).trans rfl
  have hfs49 := kf BK136.out 0
  have hns49_1 := NB137_136.out
  have hns49_2 := NB148_136.out
  have hms49_1 := NB136_137.out
  have hms49_2 := NB136_148.out
  have hs50 : w48.cell? ⟨gb136, 1, none⟩ = some (.int .i64 0) := (kc BK136.out 1).trans rfl
  have hfs50 := kf BK136.out 1
  have hns50_1 := NB137_136.out
  have hns50_2 := NB148_136.out
  have hms50_1 := NB136_137.out
  have hms50_2 := NB136_148.out
  refine skip_ (w1 := ?_) (by rfl) rfl ?_ ?_
  rotate_left
  ·go_simp
   rfl
  refine hK.out _ _ ⟨((cell_far (p := ⟨gb136, _, none⟩) NB148_136.out _).trans (((cell_far (p := ⟨gb136, _, none⟩) NB148_136.out _).trans (hHeld.1)))), ((cell_far (p := ⟨gb136, _, none⟩) NB148_136.out _).trans (((cell_far (p := ⟨gb136, _, none⟩) NB148_136.out _).trans (hHeld.2))))⟩ (fun hHeld => ?_)
  clear hK K
  refine one_ (i := 4) (N := none) #[true, true, true, true, true] rfl rfl (by kernel_rfl) (by decide) (fun K hK => ?_)
  have hs51 : w48.cell? ⟨gb137, 0, none⟩ = some (.int .i64 0) := (kc BK137.out 0).trans rfl
  have hfs51 := kf BK137.out 0
  have hns51_0 := NB136_137.out
  have hns51_2 := NB148_137.out
  have hms51_0 := NB137_136.out
  have hms51_2 := NB137_148.out
  have hs52 : w48.cell? ⟨gb137, 1, none⟩ = some (.int .i64 0) := (kc BK137.out 1).trans rfl
  have hfs52 := kf BK137.out 1
  have hns52_0 := NB136_137.out
  have hns52_2 := NB148_137.out
  have hms52_0 := NB137_136.out
  have hms52_2 := NB137_148.out
  have hs53 : w48.cell? ⟨gb137, 2, none⟩ = some (.int .i64 0) := (kc BK137.out 2).trans rfl
  have hfs53 := kf BK137.out 2
  have hns53_0 := NB136_137.out
  have hns53_2 := NB148_137.out
  have hms53_0 := NB137_136.out
  have hms53_2 := NB137_148.out
  refine skip_ (w1 := ?_) (by rfl) rfl ?_ ?_
  rotate_left
  ·go_simp
   rfl
  refine hK.out _ _ ⟨((cell_far (p := ⟨gb137, _, none⟩) NB148_137.out _).trans (((cell_far (p := ⟨gb137, _, none⟩) NB148_137.out _).trans (((cell_far (p := ⟨gb137, _, none⟩) NB148_137.out _).trans (hHeld.1)))))), ((cell_far (p := ⟨gb137, _, none⟩) NB148_137.out _).trans (((cell_far (p := ⟨gb137, _, none⟩) NB148_137.out _).trans (((cell_far (p := ⟨gb137, _, none⟩) NB148_137.out _).trans (hHeld.2))))))⟩ (fun hHeld => ?_)
  clear hK K
  refine done_ (by kernel_rfl) ?_
  try go_wp2
  refine bodyPost_ret (results_cc rfl _ _ gb136 gb137 37 30 #[.int .i64 (wrap64 (t142 - 10)), .int .i64 (wrap64 (t145 - 10))] #[.int .i64 t164, .int .i64 t165, .int .i64 t166] (0, 0) (0, 0) _ _ rfl (by (with_reducible repeat (first | refine k2 ?_ _ | refine k3 ?_ | refine k1 ?_ _)); refine blk_far ?_ NB136_137.out _; (with_reducible repeat (first | refine k2 ?_ _ | refine k3 ?_ | refine k1 ?_ _)); refine blk_far ?_ NB136_137.out _; (with_reducible repeat (first | refine k2 ?_ _ | refine k3 ?_ | refine k1 ?_ _)); refine blk_far ?_ NB136_137.out _; (with_reducible repeat (first | refine k2 ?_ _ | refine k3 ?_ | refine k1 ?_ _)); refine blk_put (cs := #[.int .i64 (wrap64 (t142 - 10)), .int .i64 0]) ?_ 1 _ rfl; (with_reducible repeat (first | refine k2 ?_ _ | refine k3 ?_ | refine k1 ?_ _)); refine blk_put (cs := #[.int .i64 0, .int .i64 0]) ?_ 0 _ rfl; (with_reducible repeat (first | refine k2 ?_ _ | refine k3 ?_ | refine k1 ?_ _)); exact BK136.out) Try.underlying37 rfl (by kernel_rfl) rfl (by (with_reducible repeat (first | refine k2 ?_ _ | refine k3 ?_ | refine k1 ?_ _)); refine blk_put (cs := #[.int .i64 t164, .int .i64 t165, .int .i64 0]) ?_ 2 _ rfl; (with_reducible repeat (first | refine k2 ?_ _ | refine k3 ?_ | refine k1 ?_ _)); refine blk_put (cs := #[.int .i64 t164, .int .i64 0, .int .i64 0]) ?_ 1 _ rfl; (with_reducible repeat (first | refine k2 ?_ _ | refine k3 ?_ | refine k1 ?_ _)); refine blk_put (cs := #[.int .i64 0, .int .i64 0, .int .i64 0]) ?_ 0 _ rfl; (with_reducible repeat (first | refine k2 ?_ _ | refine k3 ?_ | refine k1 ?_ _)); refine blk_far ?_ NB137_136.out _; (with_reducible repeat (first | refine k2 ?_ _ | refine k3 ?_ | refine k1 ?_ _)); refine blk_far ?_ NB137_136.out _; (with_reducible repeat (first | refine k2 ?_ _ | refine k3 ?_ | refine k1 ?_ _)); exact BK137.out) Try.underlying30 rfl (by kernel_rfl)) rfl ?_
  exact ⟨by first | rfl | (simp [errW_none, errW_some] <;> rfl) | (simp [*, errW_none, errW_some] <;> rfl), by repeat (first | (with_reducible first | exact HB.out | apply b1 | apply b2 | apply b3 | refine b4 ?_ (IsS75.ge HI141.out) | refine b4 ?_ GE136.out | refine b4 ?_ GE137.out | refine b4 ?_ GE148.out) | exact HB.out)⟩

end Go.Proofs.Ytcgnnfaemjjljaa.Q
