/- Written by a program of this session (wip/tools/pp.py) out of the translation, with the kit's printer. -/
import Derived.Test.YtcgnnfaemjjljaaQ0
import Derived.Test.YtcgnnfaemjjljaaQ2
import Derived.Test.YtcgnnfaemjjljaaQGspecl01From
import Derived.Test.YtcgnnfaemjjljaaQGspecl01Next
import Derived.Test.YtcgnnfaemjjljaaQ3
import Derived.Test.YtcgnnfaemjjljaaQ10
import Derived.Test.YtcgnnfaemjjljaaQ16
import Derived.Test.YtcgnnfaemjjljaaQ18
namespace Go.Proofs.Ytcgnnfaemjjljaa.Q
open Go.RowKit Go.Proofs.YtcgnnfaemjjljaaW.PrintWords Go.Proofs.YtcgnnfaemjjljaaW.PrintLast Go.Proofs.YtcgnnfaemjjljaaW.PrintMore
attribute [local go_sem] max2_int min2_int max_two min_two max_three min_three max_four min_four
set_option linter.unusedVariables false
set_option linter.unusedSimpArgs false

/-! ### spec_DrawDoesTile: function 16 -/
def spec_DrawDoesTile.j0 : Nat → List (S37) → Bool → List Int → Int → Int → Option ((List (S37)) × Int × Int × Int)
 | 0, _, _, _, _, _ => none
 | k + 1, x5, x17, x382000, x382001, x382002 => if x17 = true then ((spec_l24Lattices.f k x5).bind fun t391 => (if (t391.length : Int) > 0 then ((spec_l01Next.f x382000 x382001 x382002 (t391.length : Int)).bind fun bt394 => (if 0 ≤ bt394.1 then (if bt394.1 < (t391.length : Int) then (some (x5, (rd_T30 t391 bt394.1).f0, (rd_T30 t391 bt394.1).f1, (rd_T30 t391 bt394.1).f2)) else (none)) else (none))) else ((spec_l24Draw.f x382000 x382001 x382002).bind fun bt398 => (some (x5, bt398.1, bt398.2.1, bt398.2.2.1))))) else ((spec_l24Draw.f x382000 x382001 x382002).bind fun bt403 => (some (x5, bt403.1, bt403.2.1, bt403.2.2.1)))
def spec_DrawDoesTile.f (k : Nat) (l0 : List Int) : Option ((List (S37)) × Int × Int × Int) := (spec_l01From.f l0).bind fun bt378 => ((spec_l02Draw.f k bt378.1 bt378.2.1 bt378.2.2).bind fun bt382 => ((spec_IsShape.f k bt382.1).bind fun t387 => (if t387 = true then ((spec_l01Next.f bt378.1 bt382.2.1 bt382.2.2 2).bind fun bt388 => (spec_DrawDoesTile.j0 k bt382.1 (bt388.1 == 0) bt378.1 bt388.2.1 bt388.2.2)) else (spec_DrawDoesTile.j0 k bt382.1 false bt378.1 bt382.2.1 bt382.2.2))))
theorem spec_DrawDoesTile.mono_l : ∀ k, (∀ y0 y1 y2 y3 y4, LeO (spec_DrawDoesTile.j0 k y0 y1 y2 y3 y4) (spec_DrawDoesTile.j0 (k + 1) y0 y1 y2 y3 y4))
 | 0 => fun _ _ _ _ _ r h => by simp [spec_DrawDoesTile.j0] at h
 | k + 1 => by
  have ih0 := spec_DrawDoesTile.mono_l k
  ·intro y0 y1 y2 y3 y4
   unfold spec_DrawDoesTile.j0
   repeat' first
   | (with_reducible exact ih0 _ _ _ _ _)
   | (with_reducible exact spec_IsShape.mono _ _)
   | (with_reducible exact spec_l02Draw.mono _ _ _ _)
   | (with_reducible exact spec_l24Lattices.mono _ _)
   | (with_reducible exact LeO.refl _)
   | (with_reducible exact LeO.none _)
   | (with_reducible refine LeO.ite ?_ ?_)
   | (with_reducible refine LeO.bind ?_ (fun _ => ?_))
   | exact ih0 _ _ _ _ _
   | exact spec_IsShape.mono _ _
   | exact spec_l02Draw.mono _ _ _ _
   | exact spec_l24Lattices.mono _ _
   | exact LeO.none _
   | refine LeO.ite ?_ ?_
   | refine LeO.bind ?_ (fun _ => ?_)
theorem spec_DrawDoesTile.mono : ∀ a0 k, LeO (spec_DrawDoesTile.f k a0) (spec_DrawDoesTile.f (k + 1) a0) := by
 intro a0 k
 have ih0 := spec_DrawDoesTile.mono_l k
 unfold spec_DrawDoesTile.f
 repeat' first
   | (with_reducible exact ih0 _ _ _ _ _)
   | (with_reducible exact spec_IsShape.mono _ _)
   | (with_reducible exact spec_l02Draw.mono _ _ _ _)
   | (with_reducible exact spec_l24Lattices.mono _ _)
   | (with_reducible exact LeO.refl _)
   | (with_reducible exact LeO.none _)
   | (with_reducible refine LeO.ite ?_ ?_)
   | (with_reducible refine LeO.bind ?_ (fun _ => ?_))
   | exact ih0 _ _ _ _ _
   | exact spec_IsShape.mono _ _
   | exact spec_l02Draw.mono _ _ _ _
   | exact spec_l24Lattices.mono _ _
   | exact LeO.none _
   | refine LeO.ite ?_ ?_
   | refine LeO.bind ?_ (fun _ => ?_)
def spec_DrawDoesTile.T6 : Bool × List (List Nat × List Nat) := (true, [([], []), ([], []), ([], []), ([], []), ([3], [3]), ([2, 4], [2, 4]), ([1, 5], [1, 5]), ([6], [6]), ([0, 5, 0], [0]), ([7, 8, 0, 1, 2, 3, 4, 5, 6, 7, 8], [7])])
def spec_DrawDoesTile.B6 : List Nat := [0, 0, 0, 0, 8, 28, 62, 126, 61, 511]
theorem spec_DrawDoesTile.tab6 : rtab .any (opsOf Try.f16 6) = spec_DrawDoesTile.T6 := by kernel_rfl
theorem spec_DrawDoesTile.bits6 : waitsOk spec_DrawDoesTile.T6.2 spec_DrawDoesTile.B6 = true := by kernel_rfl
set_option maxHeartbeats 8000000 in
set_option maxRecDepth 100000 in
theorem spec_DrawDoesTile.calls (k : Nat) (A0 : Option Addr) (c0 : Nat) (l0 : List Int) (r1 : List (S37)) (r2 : Int) (r3 : Int) (r4 : Int) (w : World) (hr0 : Kd.C (Kd.int .u8) w A0 l0.length l0) (hc0 : l0.length ≤ c0) (h : spec_DrawDoesTile.f k l0 = some (r1, r2, r3, r4)) :
  Calls Try.prog 16 #[.slice A0 l0.length c0] w fun e w' => ∃ v0_ : Value, e = .returned (.tuple #[v0_, .agg #[.int .i64 r2, .int .i64 r3, .int .i64 r4]]) ∧ Kd.R k37 37 w' w.heap.size (fun _ => True) v0_ r1 ∧ Below w.heap.size w w' := by
 have hu30 := Try.underlying30
 have HR0 := am hr0
 have HC0 := am hc0
 clear hr0 hc0
 have HB := am (Below.refl w.heap.size w)
 have H : ((spec_l01From.f l0).bind fun bt378 => ((spec_l02Draw.f k bt378.1 bt378.2.1 bt378.2.2).bind fun bt382 => ((spec_IsShape.f k bt382.1).bind fun t387 => (if t387 = true then ((spec_l01Next.f bt378.1 bt382.2.1 bt382.2.2 2).bind fun bt388 => (spec_DrawDoesTile.j0 k bt382.1 (bt388.1 == 0) bt378.1 bt388.2.1 bt388.2.2)) else (spec_DrawDoesTile.j0 k bt382.1 false bt378.1 bt382.2.1 bt382.2.2))))) = some (r1, r2, r3, r4) := h
 clear h
 replace H := ob H
 obtain ⟨⟨t378, t379, t380⟩, A20, H⟩ := H
 replace H : ((spec_l02Draw.f k t378 t379 t380).bind fun bt382 => ((spec_IsShape.f k bt382.1).bind fun t387 => (if t387 = true then ((spec_l01Next.f t378 bt382.2.1 bt382.2.2 2).bind fun bt388 => (spec_DrawDoesTile.j0 k bt382.1 (bt388.1 == 0) t378 bt388.2.1 bt388.2.2)) else (spec_DrawDoesTile.j0 k bt382.1 false t378 bt382.2.1 bt382.2.2)))) = some (r1, r2, r3, r4) := H
 have A2 := am A20
 clear A20
 replace H := ob H
 obtain ⟨⟨t382, t385, t386⟩, A30, H⟩ := H
 replace H : ((spec_IsShape.f k t382).bind fun t387 => (if t387 = true then ((spec_l01Next.f t378 t385 t386 2).bind fun bt388 => (spec_DrawDoesTile.j0 k t382 (bt388.1 == 0) t378 bt388.2.1 bt388.2.2)) else (spec_DrawDoesTile.j0 k t382 false t378 t385 t386))) = some (r1, r2, r3, r4) := H
 have A3 := am A30
 clear A30
 have HC4 := am H
 clear H
 go_enter Try.func16, Try.ntmps16
 go_upto_region 3 with (first | ((with_reducible refine gate_dst (N := 3) rfl ?_); refine box_event ?hg (N := 3) ?hd (cs := #[.int .i64 0, .int .i64 0, .int .i64 0]) (t := 30) ?hr ?_; (case hd => rfl); (case hg => rfl); (case hr => first | (go_simp; done) | (go_simp; rfl)); intro gb377 hg w5 hbox hb; have n0_ := am (b6 (by repeat (first | (with_reducible first | exact HB.out | apply b1 | apply b2 | apply b3) | exact HB.out)) hb); have n1_ := am (hbox); have n2_ := am ((by rw [hg]; exact (b5 (by repeat (first | (with_reducible first | exact HB.out | apply b1 | apply b2 | apply b3) | exact HB.out))) : w.heap.size ≤ gb377)); have n3_ := n2_; clear HB; have HB := n0_; have BK377 := n1_; have GW377 := n2_; have GE377 := n3_; clear n0_ n1_ n2_ n3_; clear hb hbox hg) | ((with_reducible refine gate_callee (f := 33) rfl ?_); refine goesL_ (some 8) rfl rfl Try.func33 (by kernel_rfl) rfl #[.slice A0 l0.length c0] rfl (by (try simp only [List.map_toArray, List.map_cons, List.map_nil]); first | done | rfl | (simp only [List.length_drop, List.length_take]; rfl)) ?_; (with_reducible refine (spec_l01From.calls _ _ l0 t378 t379 t380 w _ ?side1 ?side2 ?side3 A2.out).mono ?_); (case side1 => repeat (first | (with_reducible first | exact HB.out | apply b1 | apply b2 | apply b3 | refine b4 ?_ GE377.out) | exact HB.out)); (case side2 => exact HR0.out); (case side3 => exact HC0.out); rintro e w6 ⟨g381, rfl, hi, hb, hb2⟩; refine ⟨_, rfl, ?_⟩; have n0_ := am (k4 (g := gb377) (o := .cells #[.int .i64 0, .int .i64 0, .int .i64 0] 30 (0, 0)) (by (with_reducible repeat (first | refine k2 ?_ _ | refine k3 ?_ | refine k1 ?_ _)); exact BK377.out) hb2); have n1_ := am (hb); have n2_ := am (hi); have n3_ := am (IsS75.ne_blk hi (k4 (g := gb377) (o := .cells #[.int .i64 0, .int .i64 0, .int .i64 0] 30 (0, 0)) (by (with_reducible repeat (first | refine k2 ?_ _ | refine k3 ?_ | refine k1 ?_ _)); exact BK377.out) hb2) (by decide)); have n4_ := am (Ne.symm (IsS75.ne_blk hi (k4 (g := gb377) (o := .cells #[.int .i64 0, .int .i64 0, .int .i64 0] 30 (0, 0)) (by (with_reducible repeat (first | refine k2 ?_ _ | refine k3 ?_ | refine k1 ?_ _)); exact BK377.out) hb2) (by decide))); clear BK377; clear HB; have BK377 := n0_; have HB := n1_; have HI381 := n2_; have NB381_377 := n3_; have NB377_381 := n4_; clear n0_ n1_ n2_ n3_ n4_; (try clear hb); (try clear hb2); (try clear hk); (try clear hi)) | ((with_reducible refine gate_callee (f := 38) rfl ?_); refine goesL_ (some 10) rfl rfl Try.func38 (by kernel_rfl) rfl #[.pointer (some ⟨g381, 0, none⟩)] rfl (by (try simp only [List.map_toArray, List.map_cons, List.map_nil]); first | done | rfl | (simp only [List.length_drop, List.length_take]; rfl)) ?_; (with_reducible refine (spec_l02Draw.calls k g381 t378 t379 t380 t382 t385 t386 w _ ?side1 ?side2 A3.out).mono ?_); (case side1 => repeat (first | (with_reducible first | exact HI381.out | apply IsS75.alloc | apply IsS75.drewN | apply IsS75.drew | apply IsS75.set_1 | apply IsS75.set_2 | refine IsS75.far ?_ NB381_377.out _) | exact HI381.out)); (case side2 => repeat (first | (with_reducible first | exact HB.out | apply b1 | apply b2 | apply b3 | refine b4 ?_ (IsS75.ge HI381.out) | refine b4 ?_ GE377.out) | exact HB.out)); rintro e w7 ⟨v383, rfl, ho0, hi, hb, hk⟩; refine ⟨_, rfl, ?_⟩; have n0_ := am (KeepBut.blk hk (g' := gb377) (o := .cells #[.int .i64 0, .int .i64 0, .int .i64 0] 30 (0, 0)) (by (with_reducible repeat (first | refine k2 ?_ _ | refine k3 ?_ | refine k1 ?_ _)); exact BK377.out) NB377_381.out (by simp)); have n1_ := am (Kd.R_lower ho0 (b5 (by repeat (first | (with_reducible first | exact HB.out | apply b1 | apply b2 | apply b3 | refine b4 ?_ (IsS75.ge HI381.out) | refine b4 ?_ GE377.out) | exact HB.out)))); have n2_ := am (hb); have n3_ := am (hi); clear BK377; clear HB; clear HI381; have BK377 := n0_; have HO384 := n1_; have HB := n2_; have HI381 := n3_; clear n0_ n1_ n2_ n3_; (try clear hb); (try clear hb2); (try clear hk); (try clear hi); (try clear ho0)))
 (try simp only [Act.put, sa])
 go_cut [17] (fun v17 wc => ∃ (kq : Nat) (x17_3 : Bool) (x382001_3 : Int) (x382002_3 : Int), v17 = .bool x17_3 ∧ Aside0 (spec_DrawDoesTile.j0 kq t382 x17_3 t378 x382001_3 x382002_3 = some (r1, r2, r3, r4)) ∧ Aside0 (kq ≤ k) ∧ Aside0 (Kd.R k37 37 wc w.heap.size (fun _ => True) v383 t382) ∧ Aside0 (wc.heap[gb377]? = some (.cells #[.int .i64 0, .int .i64 0, .int .i64 0] 30 (0, 0))) ∧ Aside0 (IsS75 w wc g381 t378 x382001_3 x382002_3) ∧ Aside0 (Below w.heap.size w wc))
 case first =>
  have H := HC4.out
  clear HC4
  replace H := ob H
  obtain ⟨t387, A80, H⟩ := H
  replace H : (if t387 = true then ((spec_l01Next.f t378 t385 t386 2).bind fun bt388 => (spec_DrawDoesTile.j0 k t382 (bt388.1 == 0) t378 bt388.2.1 bt388.2.2)) else (spec_DrawDoesTile.j0 k t382 false t378 t385 t386)) = some (r1, r2, r3, r4) := H
  have A8 := am A80
  clear A80
  by_cases c9 : t387 = true
  ·subst c9
   have H1 : ((spec_l01Next.f t378 t385 t386 2).bind fun bt388 => (spec_DrawDoesTile.j0 k t382 (bt388.1 == 0) t378 bt388.2.1 bt388.2.2)) = some (r1, r2, r3, r4) := by first | (rw [if_pos rfl] at H; exact H) | rfl
   clear H
   have H := H1
   clear H1
   replace H := ob H
   obtain ⟨⟨t388, t389, t390⟩, A100, H⟩ := H
   replace H : (spec_DrawDoesTile.j0 k t382 (t388 == 0) t378 t389 t390) = some (r1, r2, r3, r4) := H
   have A10 := am A100
   clear A100
   have H' := am H
   clear H
   obtain ⟨Ao11, co11, eo11⟩ := Kd.R_slice HO384.out
   subst eo11
   go_wp2_with (first | ((with_reducible refine gate_callee (f := 22) rfl ?_); refine goesL_ (some 12) rfl rfl Try.func22 (by kernel_rfl) rfl #[.slice Ao11 t382.length co11] rfl (by (try simp only [List.map_toArray, List.map_cons, List.map_nil]); first | done | rfl | (simp only [List.length_drop, List.length_take]; rfl)) ?_; (with_reducible refine (spec_IsShape.calls k _ _ t382 true _ ?side1 ?side2 A8.out).mono ?_); (case side1 => repeat (first | exact (Kd.R_reads' HO384.out).2.2 | (with_reducible refine Kd.C_alloc ?_ _) | (with_reducible refine Kd.C_drewN ?_ _) | (with_reducible refine Kd.C_drew ?_))); (case side2 => exact (Kd.R_reads' HO384.out).2.1); rintro e w12 ⟨rfl, hb⟩; refine ⟨_, rfl, ?_⟩; have n0_ := am (Kd.R_below (by (with_reducible repeat (first | apply Kd.R_alloc | apply Kd.R_drewN | apply Kd.R_drew)); exact HO384.out) hb); have n1_ := am (k4 (g := gb377) (o := .cells #[.int .i64 0, .int .i64 0, .int .i64 0] 30 (0, 0)) (by (with_reducible repeat (first | refine k2 ?_ _ | refine k3 ?_ | refine k1 ?_ _)); exact BK377.out) hb); have n2_ := am (IsS75.below (by repeat (first | (with_reducible first | exact HI381.out | apply IsS75.alloc | apply IsS75.drewN | apply IsS75.drew | apply IsS75.set_1 | apply IsS75.set_2 | refine IsS75.far ?_ NB381_377.out _) | exact HI381.out)) hb); have n3_ := am (b6 (by repeat (first | (with_reducible first | exact HB.out | apply b1 | apply b2 | apply b3 | refine b4 ?_ (IsS75.ge HI381.out) | refine b4 ?_ GE377.out) | exact HB.out)) hb); clear HO384; clear BK377; clear HI381; clear HB; have HO384 := n0_; have BK377 := n1_; have HI381 := n2_; have HB := n3_; clear n0_ n1_ n2_ n3_; (try clear hb); (try clear hb2); (try clear hk); (try clear hi)) | (go_at_call 34; (with_reducible refine (spec_l01Next.calls g381 t378 t385 t386 2 t388 t389 t390 w _ ?side1 ?side2 A10.out).mono ?_); (case side1 => repeat (first | (with_reducible first | exact HI381.out | apply IsS75.alloc | apply IsS75.drewN | apply IsS75.drew | apply IsS75.set_1 | apply IsS75.set_2 | refine IsS75.far ?_ NB381_377.out _) | exact HI381.out)); (case side2 => repeat (first | (with_reducible first | exact HB.out | apply b1 | apply b2 | apply b3 | refine b4 ?_ (IsS75.ge HI381.out) | refine b4 ?_ GE377.out) | exact HB.out)); rintro e w13 ⟨rfl, hi, hb, hk⟩; have n0_ := am (KeepBut.blk hk (g' := gb377) (o := .cells #[.int .i64 0, .int .i64 0, .int .i64 0] 30 (0, 0)) (by (with_reducible repeat (first | refine k2 ?_ _ | refine k3 ?_ | refine k1 ?_ _)); exact BK377.out) NB377_381.out (by simp)); have n1_ := am (Kd.R_mono (Kd.R_keep (IsS75.apart (show IsS75 w _ g381 t378 t385 t386 from by repeat (first | (with_reducible first | exact HI381.out | apply IsS75.alloc | apply IsS75.drewN | apply IsS75.drew | apply IsS75.set_1 | apply IsS75.set_2 | refine IsS75.far ?_ NB381_377.out _) | exact HI381.out)) (by (with_reducible repeat (first | apply Kd.R_alloc | apply Kd.R_drewN | apply Kd.R_drew)); exact HO384.out) (by decide)) hk (fun _ h => h.2)) (fun _ h => h.1)); have n2_ := am (hb); have n3_ := am (hi); clear BK377; clear HO384; clear HB; clear HI381; have BK377 := n0_; have HO384 := n1_; have HB := n2_; have HI381 := n3_; clear n0_ n1_ n2_ n3_; (try clear hb); (try clear hb2); (try clear hk); (try clear hi)))
   go_meet
   case rel => exact ⟨_, ((t388 == 0)), (t389), (t390), (by first | rfl | (simp; done) | (simp [*]; done)), H', ⟨by first | omega | exact Nat.le_refl _⟩, ⟨by (with_reducible repeat (first | apply Kd.R_alloc | apply Kd.R_drewN | apply Kd.R_drew)); exact HO384.out⟩, ⟨by (with_reducible repeat (first | refine k2 ?_ _ | refine k3 ?_ | refine k1 ?_ _)); exact BK377.out⟩, ⟨by repeat (first | (with_reducible first | exact HI381.out | apply IsS75.alloc | apply IsS75.drewN | apply IsS75.drew | apply IsS75.set_1 | apply IsS75.set_2 | refine IsS75.far ?_ NB381_377.out _) | exact HI381.out)⟩, ⟨by repeat (first | (with_reducible first | exact HB.out | apply b1 | apply b2 | apply b3 | refine b4 ?_ (IsS75.ge HI381.out) | refine b4 ?_ GE377.out) | exact HB.out)⟩⟩
  ·replace c9 := ef c9
   subst c9
   have H1 : (spec_DrawDoesTile.j0 k t382 false t378 t385 t386) = some (r1, r2, r3, r4) := by first | (rw [if_neg (show ¬ (false = true) by decide)] at H; exact H) | rfl
   clear H
   have H := H1
   clear H1
   have H' := am H
   clear H
   obtain ⟨Ao14, co14, eo14⟩ := Kd.R_slice HO384.out
   subst eo14
   go_wp2_with (first | ((with_reducible refine gate_callee (f := 22) rfl ?_); refine goesL_ (some 12) rfl rfl Try.func22 (by kernel_rfl) rfl #[.slice Ao14 t382.length co14] rfl (by (try simp only [List.map_toArray, List.map_cons, List.map_nil]); first | done | rfl | (simp only [List.length_drop, List.length_take]; rfl)) ?_; (with_reducible refine (spec_IsShape.calls k _ _ t382 false _ ?side1 ?side2 A8.out).mono ?_); (case side1 => repeat (first | exact (Kd.R_reads' HO384.out).2.2 | (with_reducible refine Kd.C_alloc ?_ _) | (with_reducible refine Kd.C_drewN ?_ _) | (with_reducible refine Kd.C_drew ?_))); (case side2 => exact (Kd.R_reads' HO384.out).2.1); rintro e w15 ⟨rfl, hb⟩; refine ⟨_, rfl, ?_⟩; have n0_ := am (Kd.R_below (by (with_reducible repeat (first | apply Kd.R_alloc | apply Kd.R_drewN | apply Kd.R_drew)); exact HO384.out) hb); have n1_ := am (k4 (g := gb377) (o := .cells #[.int .i64 0, .int .i64 0, .int .i64 0] 30 (0, 0)) (by (with_reducible repeat (first | refine k2 ?_ _ | refine k3 ?_ | refine k1 ?_ _)); exact BK377.out) hb); have n2_ := am (IsS75.below (by repeat (first | (with_reducible first | exact HI381.out | apply IsS75.alloc | apply IsS75.drewN | apply IsS75.drew | apply IsS75.set_1 | apply IsS75.set_2 | refine IsS75.far ?_ NB381_377.out _) | exact HI381.out)) hb); have n3_ := am (b6 (by repeat (first | (with_reducible first | exact HB.out | apply b1 | apply b2 | apply b3 | refine b4 ?_ (IsS75.ge HI381.out) | refine b4 ?_ GE377.out) | exact HB.out)) hb); clear HO384; clear BK377; clear HI381; clear HB; have HO384 := n0_; have BK377 := n1_; have HI381 := n2_; have HB := n3_; clear n0_ n1_ n2_ n3_; (try clear hb); (try clear hb2); (try clear hk); (try clear hi)))
   go_meet
   case rel => exact ⟨_, (false), (t385), (t386), (by first | rfl | (simp; done) | (simp [*]; done)), H', ⟨by first | omega | exact Nat.le_refl _⟩, ⟨by (with_reducible repeat (first | apply Kd.R_alloc | apply Kd.R_drewN | apply Kd.R_drew)); exact HO384.out⟩, ⟨by (with_reducible repeat (first | refine k2 ?_ _ | refine k3 ?_ | refine k1 ?_ _)); exact BK377.out⟩, ⟨by repeat (first | (with_reducible first | exact HI381.out | apply IsS75.alloc | apply IsS75.drewN | apply IsS75.drew | apply IsS75.set_1 | apply IsS75.set_2 | refine IsS75.far ?_ NB381_377.out _) | exact HI381.out)⟩, ⟨by repeat (first | (with_reducible first | exact HB.out | apply b1 | apply b2 | apply b3 | refine b4 ?_ (IsS75.ge HI381.out) | refine b4 ?_ GE377.out) | exact HB.out)⟩⟩
 case rest =>
  clear HC4
  try clear c1
  try clear c2
  try clear p2
  try clear c3
  try clear c9
  obtain ⟨kq, x17_3, x382001_3, x382002_3, rfl, HA, HJ3, HO_5, BK377, HI381, HB⟩ := hcut
  cases kq with
  | zero => exact absurd HA.out (by simp [spec_DrawDoesTile.j0])
  | succ kj3 =>
   have H := HA.out
   clear HA
   simp only [spec_DrawDoesTile.j0] at H
   by_cases c16 : x17_3 = true
   ·subst c16
    have H1 : ((spec_l24Lattices.f kj3 t382).bind fun t391 => (if (t391.length : Int) > 0 then ((spec_l01Next.f t378 x382001_3 x382002_3 (t391.length : Int)).bind fun bt394 => (if 0 ≤ bt394.1 then (if bt394.1 < (t391.length : Int) then (some (t382, (rd_T30 t391 bt394.1).f0, (rd_T30 t391 bt394.1).f1, (rd_T30 t391 bt394.1).f2)) else (none)) else (none))) else ((spec_l24Draw.f t378 x382001_3 x382002_3).bind fun bt398 => (some (t382, bt398.1, bt398.2.1, bt398.2.2.1))))) = some (r1, r2, r3, r4) := by first | (rw [if_pos rfl] at H; exact H) | rfl
    clear H
    have H := H1
    clear H1
    replace H := ob H
    obtain ⟨t391, A170, H⟩ := H
    replace H : (if (t391.length : Int) > 0 then ((spec_l01Next.f t378 x382001_3 x382002_3 (t391.length : Int)).bind fun bt394 => (if 0 ≤ bt394.1 then (if bt394.1 < (t391.length : Int) then (some (t382, (rd_T30 t391 bt394.1).f0, (rd_T30 t391 bt394.1).f1, (rd_T30 t391 bt394.1).f2)) else (none)) else (none))) else ((spec_l24Draw.f t378 x382001_3 x382002_3).bind fun bt398 => (some (t382, bt398.1, bt398.2.1, bt398.2.2.1)))) = some (r1, r2, r3, r4) := H
    have A17 := am A170
    clear A170
    by_cases c18 : (t391.length : Int) > 0
    ·rw [if_pos c18] at H
     have c18b0 : decide (0 < (t391.length : Int)) = true := decide_eq_true c18
     have c18b1 : decide (0 < t391.length) = true := decide_eq_true (by omega)
     clear c18
     replace H := ob H
     obtain ⟨⟨t394, t395, t396⟩, A190, H⟩ := H
     replace H : (if 0 ≤ t394 then (if t394 < (t391.length : Int) then (some (t382, (rd_T30 t391 t394).f0, (rd_T30 t391 t394).f1, (rd_T30 t391 t394).f2)) else (none)) else (none)) = some (r1, r2, r3, r4) := H
     have A19 := am A190
     clear A190
     by_cases c20 : 0 ≤ t394
     ·rw [if_pos c20] at H
      have c20b0 : decide (0 ≤ t394) = true := decide_eq_true c20
      clear c20
      by_cases c21 : t394 < (t391.length : Int)
      ·rw [if_pos c21] at H
       have c21b0 : decide (t394 < (t391.length : Int)) = true := decide_eq_true c21
       clear c21
       simp only [Option.some.injEq, Prod.mk.injEq] at H
       obtain ⟨rfl, rfl, rfl, rfl⟩ := H
       obtain ⟨Ao22, co22, eo22⟩ := Kd.R_slice HO_5.out
       subst eo22
       try go_wp2_with (first | ((with_reducible refine gate_callee (f := 39) rfl ?_); refine goesL_ (some 19) rfl rfl Try.func39 (by kernel_rfl) rfl #[.slice Ao22 t382.length co22] rfl (by (try simp only [List.map_toArray, List.map_cons, List.map_nil]); first | done | rfl | (simp only [List.length_drop, List.length_take]; rfl)) ?_; (with_reducible refine (spec_l24Lattices.calls kj3 _ _ t382 t391 _ ?side1 ?side2 A17.out).mono ?_); (case side1 => repeat (first | exact (Kd.R_reads' HO_5.out).2.2 | (with_reducible refine Kd.C_alloc ?_ _) | (with_reducible refine Kd.C_drewN ?_ _) | (with_reducible refine Kd.C_drew ?_))); (case side2 => exact (Kd.R_reads' HO_5.out).2.1); rintro e w23 ⟨v392, rfl, ho0, hb⟩; refine ⟨_, rfl, ?_⟩; have n0_ := am (Kd.R_below (by (with_reducible repeat (first | apply Kd.R_alloc | apply Kd.R_drewN | apply Kd.R_drew)); exact HO_5.out) hb); have n1_ := am (Kd.R_lower (Kd.R_newB ho0 (g := gb377) (o := .cells #[.int .i64 0, .int .i64 0, .int .i64 0] 30 (0, 0)) (by (with_reducible repeat (first | refine k2 ?_ _ | refine k3 ?_ | refine k1 ?_ _)); exact BK377.out)) (b5 (by repeat (first | (with_reducible first | exact HB.out | apply b1 | apply b2 | apply b3 | refine b4 ?_ (IsS75.ge HI381.out) | refine b4 ?_ GE377.out) | exact HB.out)))); have n2_ := am (k4 (g := gb377) (o := .cells #[.int .i64 0, .int .i64 0, .int .i64 0] 30 (0, 0)) (by (with_reducible repeat (first | refine k2 ?_ _ | refine k3 ?_ | refine k1 ?_ _)); exact BK377.out) hb); have n3_ := am (IsS75.below (by repeat (first | (with_reducible first | exact HI381.out | apply IsS75.alloc | apply IsS75.drewN | apply IsS75.drew | apply IsS75.set_1 | apply IsS75.set_2 | refine IsS75.far ?_ NB381_377.out _) | exact HI381.out)) hb); have n4_ := am (b6 (by repeat (first | (with_reducible first | exact HB.out | apply b1 | apply b2 | apply b3 | refine b4 ?_ (IsS75.ge HI381.out) | refine b4 ?_ GE377.out) | exact HB.out)) hb); clear HO_5; clear BK377; clear HI381; clear HB; have HO_5 := n0_; have HO393 := n1_; have BK377 := n2_; have HI381 := n3_; have HB := n4_; clear n0_ n1_ n2_ n3_ n4_; (try clear hb); (try clear hb2); (try clear hk); (try clear hi); (try clear ho0); obtain ⟨Ao24, co24, eo24⟩ := Kd.R_slice HO393.out; subst eo24))
       have n0_ := am (Kd.R_drew HO_5.out)
       have n1_ := am (Kd.R_drew HO393.out)
       have n2_ := am (k3 BK377.out)
       have n3_ := am (IsS75.drew HI381.out)
       have n4_ := am (b3 HB.out)
       clear HO_5
       clear HO393
       clear BK377
       clear HI381
       clear HB
       have HO_5 := n0_
       have HO393 := n1_
       have BK377 := n2_
       have HI381 := n3_
       have HB := n4_
       clear n0_ n1_ n2_ n3_ n4_
       have p397 : 0 ≤ (t394 : Int) := of_decide_eq_true (by first | (with_reducible assumption) | assumption)
       have q397 : t394 < (t391.length : Int) := of_decide_eq_true (by first | (with_reducible assumption) | assumption)
       obtain ⟨ad397, e397, hx397_0, hx397_1, hx397_2⟩ := at_T30 (Kd.R_reads' HO393.out).2.2 t394 p397 q397
       cases e397
       replace p397 := eq_true p397
       replace q397 := eq_true q397
       refine start_ (n := 10) (S := fun w' => w'.cell? (ad397.add ((t394).toNat * 3)) = some (.int .i64 ((rd_T30 t391 t394).f0)) ∧ w'.cell? ⟨(ad397.add ((t394).toNat * 3)).block, (ad397.add ((t394).toNat * 3)).off + 1, none⟩ = some (.int .i64 ((rd_T30 t391 t394).f1)) ∧ w'.cell? ⟨(ad397.add ((t394).toNat * 3)).block, (ad397.add ((t394).toNat * 3)).off + 2, none⟩ = some (.int .i64 ((rd_T30 t391 t394).f2))) (ds := []) #[false, false, false, false, false, false, false, false, false, false] (by kernel_rfl) rfl rfl ⟨hx397_0, hx397_1, hx397_2⟩ (fun hHeld => ?_); refine with_tabW spec_DrawDoesTile.tab6 spec_DrawDoesTile.bits6 (fun HT_ HW_ => ?_)
       generalize w23.drew = w25 at HO_5 HO393 BK377 HI381 HB hx397_0 hx397_1 hx397_2 hHeld ⊢
       refine pure_ (i := 0) (N := some 23) (v := ?_) (a' := ?_) #[true, false, false, false, false, false, false, false, false, false] rfl rfl (any_of HT_.out (by kernel_rfl)) (fun _ _ _ h => h) (Or.inl ⟨by rfl, ?_⟩) ?_ ?_
       rotate_left
       ·intro w'
        go_simp
        with_reducible rfl
       rotate_left
       ·simp only [Act.put, sa, i64_w, i32_w]
        rfl
       refine pure_ (i := 1) (N := some 24) (v := ?_) (a' := ?_) #[true, true, false, false, false, false, false, false, false, false] rfl rfl (any_of HT_.out (by kernel_rfl)) (fun _ _ _ h => h) (Or.inl ⟨by rfl, ?_⟩) ?_ ?_
       rotate_left
       ·intro w'
        go_simp
        with_reducible rfl
       rotate_left
       ·simp only [Act.put, sa, i64_w, i32_w]
        rfl
       refine pure_ (i := 2) (N := some 25) (v := ?_) (a' := ?_) #[true, true, true, false, false, false, false, false, false, false] rfl rfl (any_of HT_.out (by kernel_rfl)) (fun _ _ _ h => h) (Or.inl ⟨by rfl, ?_⟩) ?_ ?_
       rotate_left
       ·intro w'
        go_simp
        with_reducible rfl
       rotate_left
       ·simp only [Act.put, sa, i64_w, i32_w]
        rfl
       refine pure_ (i := 3) (N := some 26) (v := ?_) (a' := ?_) #[true, true, true, true, false, false, false, false, false, false] rfl rfl (any_of HT_.out (by kernel_rfl)) (fun _ _ _ h => h) (Or.inl ⟨by rfl, ?_⟩) ?_ ?_
       rotate_left
       ·intro w'
        go_simp
        with_reducible rfl
       rotate_left
       ·simp only [Act.put, sa, i64_w, i32_w]
        rfl
       refine pure_ (i := 4) (N := some 27) (v := ?_) (a' := ?_) #[true, true, true, true, true, false, false, false, false, false] rfl rfl (any_of HT_.out (by kernel_rfl)) (fun _ _ _ h => h) (Or.inl ⟨by rfl, ?_⟩) ?_ ?_
       rotate_left
       ·intro w'
        go_simp
        with_reducible rfl
       rotate_left
       ·simp only [Act.put, sa, i64_w, i32_w]
        rfl
       refine one_ (i := 5) (N := some 28) #[true, true, true, true, true, true, false, false, false, false] rfl rfl (one_of HT_.out (by kernel_rfl)) (by decide) (fun K hK => ?_)
       refine goes_ Try.func34 (by kernel_rfl) rfl #[.pointer (some ⟨g381, 0, none⟩), .int .i64 (t391.length : Int)] (by rfl) rfl rfl (by (try simp only [List.map_toArray, List.map_cons, List.map_nil]); first | done | rfl | (simp only [List.length_drop, List.length_take]; rfl)) ?_
       with_reducible refine (spec_l01Next.calls g381 t378 x382001_3 x382002_3 (t391.length : Int) t394 t395 t396 w _ ?side1 ?side2 A19.out).mono ?_
       (case side1 => repeat (first | (with_reducible first | exact HI381.out | apply IsS75.alloc | apply IsS75.drewN | apply IsS75.drew | apply IsS75.set_1 | apply IsS75.set_2 | refine IsS75.far ?_ NB381_377.out _) | exact HI381.out))
       (case side2 => repeat (first | (with_reducible first | exact HB.out | apply b1 | apply b2 | apply b3 | refine b4 ?_ (IsS75.ge HI381.out) | refine b4 ?_ GE377.out) | exact HB.out))
       rintro e w26 ⟨rfl, hi, hb, hk⟩
       have HS0_ := keep_cell hk (hHeld.1) (by first | (rw [add_block]; exact Kd.own_blk (IsS75.own_ne HI381.out HO393.out (by decide))) | (show (Addr.add _ _).block ≠ _; rw [add_block]; exact Kd.own_blk (IsS75.own_ne HI381.out HO393.out (by decide))) | exact Kd.own_blk (IsS75.own_ne HI381.out HO393.out (by decide)))
       have HS1_ := keep_cell hk (hHeld.2.1) (by first | (rw [add_block]; exact Kd.own_blk (IsS75.own_ne HI381.out HO393.out (by decide))) | (show (Addr.add _ _).block ≠ _; rw [add_block]; exact Kd.own_blk (IsS75.own_ne HI381.out HO393.out (by decide))) | exact Kd.own_blk (IsS75.own_ne HI381.out HO393.out (by decide)))
       have HS2_ := keep_cell hk (hHeld.2.2) (by first | (rw [add_block]; exact Kd.own_blk (IsS75.own_ne HI381.out HO393.out (by decide))) | (show (Addr.add _ _).block ≠ _; rw [add_block]; exact Kd.own_blk (IsS75.own_ne HI381.out HO393.out (by decide))) | exact Kd.own_blk (IsS75.own_ne HI381.out HO393.out (by decide)))
       refine ⟨_, rfl, ?_⟩
       have n0_ := am (Kd.R_mono (Kd.R_keep (IsS75.apart (show IsS75 w _ g381 t378 x382001_3 x382002_3 from by repeat (first | (with_reducible first | exact HI381.out | apply IsS75.alloc | apply IsS75.drewN | apply IsS75.drew | apply IsS75.set_1 | apply IsS75.set_2 | refine IsS75.far ?_ NB381_377.out _) | exact HI381.out)) (by (with_reducible repeat (first | apply Kd.R_alloc | apply Kd.R_drewN | apply Kd.R_drew)); exact HO_5.out) (by decide)) hk (fun _ h => h.2)) (fun _ h => h.1))
       have n1_ := am (KeepBut.blk hk (g' := gb377) (o := .cells #[.int .i64 0, .int .i64 0, .int .i64 0] 30 (0, 0)) (by (with_reducible repeat (first | refine k2 ?_ _ | refine k3 ?_ | refine k1 ?_ _)); exact BK377.out) NB377_381.out (by simp))
       have n2_ := am (Kd.R_mono (Kd.R_keep (IsS75.apart (show IsS75 w _ g381 t378 x382001_3 x382002_3 from by repeat (first | (with_reducible first | exact HI381.out | apply IsS75.alloc | apply IsS75.drewN | apply IsS75.drew | apply IsS75.set_1 | apply IsS75.set_2 | refine IsS75.far ?_ NB381_377.out _) | exact HI381.out)) (by (with_reducible repeat (first | apply Kd.R_alloc | apply Kd.R_drewN | apply Kd.R_drew)); exact HO393.out) (by decide)) hk (fun _ h => h.2)) (fun _ h => h.1))
       have n3_ := am (hb)
       have n4_ := am (hi)
       clear HO_5
       clear BK377
       clear HO393
       clear HB
       clear HI381
       have HO_5 := n0_
       have BK377 := n1_
       have HO393 := n2_
       have HB := n3_
       have HI381 := n4_
       clear n0_ n1_ n2_ n3_ n4_
       (try clear hb)
       (try clear hb2)
       (try clear hk)
       (try clear hi)
       refine hK.out _ _ ⟨HS0_, HS1_, HS2_⟩ (fun hHeld => ?_)
       clear hK K
       refine norm_ (a' := ?_) ?_ ?_
       rotate_left
       ·show Act.put _ (some 28) _ = _
        simp only [Act.put, sa, i64_w, i32_w]
        rfl
       refine pure_ (i := 6) (N := some 29) (v := ?_) (a' := ?_) #[true, true, true, true, true, true, true, false, false, false] rfl rfl (any_of HT_.out (by kernel_rfl)) (fun _ _ _ h => h) (Or.inl ⟨by rfl, ?_⟩) ?_ ?_
       rotate_left
       ·intro w'
        go_simp
        with_reducible rfl
       rotate_left
       ·simp only [Act.put, sa, i64_w, i32_w]
        rfl
       refine pure_ (i := 8) (N := some 2) (v := ?_) (a' := ?_) #[true, true, true, true, true, true, true, false, true, false] rfl rfl (any_of HT_.out (by kernel_rfl)) (fun _ _ _ h => h) (Or.inl ⟨by rfl, ?_⟩) ?_ ?_
       rotate_left
       ·intro w'
        go_simp
        with_reducible rfl
       rotate_left
       ·simp only [Act.put, sa, i64_w, i32_w]
        rfl
       refine take_ (i := 7) (N := some 30) (v := ?_) (a' := ?_) #[true, true, true, true, true, true, true, true, true, false] rfl rfl (take_ofW HT_.out HW_.out (by kernel_rfl)) (fun _ _ _ h => h) (Or.inl ⟨by rfl, ?_⟩) hHeld ?_ ?_
       rotate_left
       ·rintro w' ⟨s0, s1, s2⟩
        go_simp
        with_reducible rfl
       rotate_left
       ·simp only [Act.put, sa, i64_w, i32_w]
        rfl
       refine one_ (i := 9) (N := none) #[true, true, true, true, true, true, true, true, true, true] rfl rfl (one_of HT_.out (by kernel_rfl)) (by decide) (fun K hK => ?_)
       have hs27 : w26.cell? ⟨gb377, 0, none⟩ = some (.int .i64 0) := (kc BK377.out 0).trans rfl
       have hfs27 := kf BK377.out 0
       have hs28 : w26.cell? ⟨gb377, 1, none⟩ = some (.int .i64 0) := (kc BK377.out 1).trans rfl
       have hfs28 := kf BK377.out 1
       have hs29 : w26.cell? ⟨gb377, 2, none⟩ = some (.int .i64 0) := (kc BK377.out 2).trans rfl
       have hfs29 := kf BK377.out 2
       refine skip_ (w1 := ?_) (by rfl) rfl ?_ ?_
       rotate_left
       ·go_simp
        rfl
       refine hK.out _ _ ⟨((cell_far (p := ⟨gb377, _, none⟩) (by first | exact Kd.own_blk (Kd.R_away HO393.out (fun _ hk => hk.2)) | (rw [add_block]; exact Kd.own_blk (Kd.R_away HO393.out (fun _ hk => hk.2))) | (show (Addr.add _ _).block ≠ _; rw [add_block]; exact Kd.own_blk (Kd.R_away HO393.out (fun _ hk => hk.2))) | (dsimp only; exact Kd.own_blk (Kd.R_away HO393.out (fun _ hk => hk.2)))) _).trans (((cell_far (p := ⟨gb377, _, none⟩) (by first | exact Kd.own_blk (Kd.R_away HO393.out (fun _ hk => hk.2)) | (rw [add_block]; exact Kd.own_blk (Kd.R_away HO393.out (fun _ hk => hk.2))) | (show (Addr.add _ _).block ≠ _; rw [add_block]; exact Kd.own_blk (Kd.R_away HO393.out (fun _ hk => hk.2))) | (dsimp only; exact Kd.own_blk (Kd.R_away HO393.out (fun _ hk => hk.2)))) _).trans (((cell_far (p := ⟨gb377, _, none⟩) (by first | exact Kd.own_blk (Kd.R_away HO393.out (fun _ hk => hk.2)) | (rw [add_block]; exact Kd.own_blk (Kd.R_away HO393.out (fun _ hk => hk.2))) | (show (Addr.add _ _).block ≠ _; rw [add_block]; exact Kd.own_blk (Kd.R_away HO393.out (fun _ hk => hk.2))) | (dsimp only; exact Kd.own_blk (Kd.R_away HO393.out (fun _ hk => hk.2)))) _).trans (hHeld.1)))))), ((cell_far (p := ⟨gb377, _, none⟩) (by first | exact Kd.own_blk (Kd.R_away HO393.out (fun _ hk => hk.2)) | (rw [add_block]; exact Kd.own_blk (Kd.R_away HO393.out (fun _ hk => hk.2))) | (show (Addr.add _ _).block ≠ _; rw [add_block]; exact Kd.own_blk (Kd.R_away HO393.out (fun _ hk => hk.2))) | (dsimp only; exact Kd.own_blk (Kd.R_away HO393.out (fun _ hk => hk.2)))) _).trans (((cell_far (p := ⟨gb377, _, none⟩) (by first | exact Kd.own_blk (Kd.R_away HO393.out (fun _ hk => hk.2)) | (rw [add_block]; exact Kd.own_blk (Kd.R_away HO393.out (fun _ hk => hk.2))) | (show (Addr.add _ _).block ≠ _; rw [add_block]; exact Kd.own_blk (Kd.R_away HO393.out (fun _ hk => hk.2))) | (dsimp only; exact Kd.own_blk (Kd.R_away HO393.out (fun _ hk => hk.2)))) _).trans (((cell_far (p := ⟨gb377, _, none⟩) (by first | exact Kd.own_blk (Kd.R_away HO393.out (fun _ hk => hk.2)) | (rw [add_block]; exact Kd.own_blk (Kd.R_away HO393.out (fun _ hk => hk.2))) | (show (Addr.add _ _).block ≠ _; rw [add_block]; exact Kd.own_blk (Kd.R_away HO393.out (fun _ hk => hk.2))) | (dsimp only; exact Kd.own_blk (Kd.R_away HO393.out (fun _ hk => hk.2)))) _).trans (hHeld.2.1)))))), ((cell_far (p := ⟨gb377, _, none⟩) (by first | exact Kd.own_blk (Kd.R_away HO393.out (fun _ hk => hk.2)) | (rw [add_block]; exact Kd.own_blk (Kd.R_away HO393.out (fun _ hk => hk.2))) | (show (Addr.add _ _).block ≠ _; rw [add_block]; exact Kd.own_blk (Kd.R_away HO393.out (fun _ hk => hk.2))) | (dsimp only; exact Kd.own_blk (Kd.R_away HO393.out (fun _ hk => hk.2)))) _).trans (((cell_far (p := ⟨gb377, _, none⟩) (by first | exact Kd.own_blk (Kd.R_away HO393.out (fun _ hk => hk.2)) | (rw [add_block]; exact Kd.own_blk (Kd.R_away HO393.out (fun _ hk => hk.2))) | (show (Addr.add _ _).block ≠ _; rw [add_block]; exact Kd.own_blk (Kd.R_away HO393.out (fun _ hk => hk.2))) | (dsimp only; exact Kd.own_blk (Kd.R_away HO393.out (fun _ hk => hk.2)))) _).trans (((cell_far (p := ⟨gb377, _, none⟩) (by first | exact Kd.own_blk (Kd.R_away HO393.out (fun _ hk => hk.2)) | (rw [add_block]; exact Kd.own_blk (Kd.R_away HO393.out (fun _ hk => hk.2))) | (show (Addr.add _ _).block ≠ _; rw [add_block]; exact Kd.own_blk (Kd.R_away HO393.out (fun _ hk => hk.2))) | (dsimp only; exact Kd.own_blk (Kd.R_away HO393.out (fun _ hk => hk.2)))) _).trans (hHeld.2.2))))))⟩ (fun hHeld => ?_)
       clear hK K
       refine done_ (done_of HT_.out (by kernel_rfl)) ?_
       try go_wp2
       refine bodyPost_ret (results_tc rfl _ _ gb377 30 #[.int .i64 ((rd_T30 t391 t394).f0), .int .i64 ((rd_T30 t391 t394).f1), .int .i64 ((rd_T30 t391 t394).f2)] (0, 0) _ rfl (by (with_reducible repeat (first | refine k2 ?_ _ | refine k3 ?_ | refine k1 ?_ _)); refine blk_put (cs := #[.int .i64 ((rd_T30 t391 t394).f0), .int .i64 ((rd_T30 t391 t394).f1), .int .i64 0]) ?_ 2 _ rfl; (with_reducible repeat (first | refine k2 ?_ _ | refine k3 ?_ | refine k1 ?_ _)); refine blk_put (cs := #[.int .i64 ((rd_T30 t391 t394).f0), .int .i64 0, .int .i64 0]) ?_ 1 _ rfl; (with_reducible repeat (first | refine k2 ?_ _ | refine k3 ?_ | refine k1 ?_ _)); refine blk_put (cs := #[.int .i64 0, .int .i64 0, .int .i64 0]) ?_ 0 _ rfl; (with_reducible repeat (first | refine k2 ?_ _ | refine k3 ?_ | refine k1 ?_ _)); exact BK377.out) Try.underlying30 rfl (by kernel_rfl)) rfl ?_
       exact ⟨_, by first | rfl | (simp [errW_none, errW_some] <;> rfl) | (simp [*, errW_none, errW_some] <;> rfl), by (with_reducible repeat (first | apply Kd.R_alloc | apply Kd.R_drewN | apply Kd.R_drew)); exact Kd.R_mono (Kd.R_far (p := ⟨gb377, 2, none⟩) (Kd.R_far (p := ⟨gb377, 1, none⟩) (Kd.R_far (p := ⟨gb377, 0, none⟩) (Kd.R_types HO_5.out BK377.out (by decide)) (fun _ hk => hk.2) (.int .i64 ((rd_T30 t391 t394).f0))) (fun _ hk => hk.2) (.int .i64 ((rd_T30 t391 t394).f1))) (fun _ hk => hk.2) (.int .i64 ((rd_T30 t391 t394).f2))) (fun _ hk => trivial), by repeat (first | (with_reducible first | exact HB.out | apply b1 | apply b2 | apply b3 | refine b4 ?_ (IsS75.ge HI381.out) | refine b4 ?_ GE377.out) | exact HB.out)⟩
      ·rw [if_neg c21] at H
       exact absurd H (by simp)
     ·rw [if_neg c20] at H
      exact absurd H (by simp)
    ·rw [if_neg c18] at H
     have c18b0 : decide (0 < (t391.length : Int)) = false := decide_eq_false c18
     have c18b1 : decide (0 < t391.length) = false := decide_eq_false (by omega)
     clear c18
     replace H := ob H
     obtain ⟨⟨t398, t399, t400, t401, t402⟩, A300, H⟩ := H
     replace H : (some (t382, t398, t399, t400)) = some (r1, r2, r3, r4) := H
     have A30 := am A300
     clear A300
     simp only [Option.some.injEq, Prod.mk.injEq] at H
     obtain ⟨rfl, rfl, rfl, rfl⟩ := H
     obtain ⟨Ao31, co31, eo31⟩ := Kd.R_slice HO_5.out
     subst eo31
     go_wp2_with (first | ((with_reducible refine gate_callee (f := 39) rfl ?_); refine goesL_ (some 19) rfl rfl Try.func39 (by kernel_rfl) rfl #[.slice Ao31 t382.length co31] rfl (by (try simp only [List.map_toArray, List.map_cons, List.map_nil]); first | done | rfl | (simp only [List.length_drop, List.length_take]; rfl)) ?_; (with_reducible refine (spec_l24Lattices.calls kj3 _ _ t382 t391 _ ?side1 ?side2 A17.out).mono ?_); (case side1 => repeat (first | exact (Kd.R_reads' HO_5.out).2.2 | (with_reducible refine Kd.C_alloc ?_ _) | (with_reducible refine Kd.C_drewN ?_ _) | (with_reducible refine Kd.C_drew ?_))); (case side2 => exact (Kd.R_reads' HO_5.out).2.1); rintro e w32 ⟨v392, rfl, ho0, hb⟩; refine ⟨_, rfl, ?_⟩; have n0_ := am (Kd.R_below (by (with_reducible repeat (first | apply Kd.R_alloc | apply Kd.R_drewN | apply Kd.R_drew)); exact HO_5.out) hb); have n1_ := am (Kd.R_lower (Kd.R_newB ho0 (g := gb377) (o := .cells #[.int .i64 0, .int .i64 0, .int .i64 0] 30 (0, 0)) (by (with_reducible repeat (first | refine k2 ?_ _ | refine k3 ?_ | refine k1 ?_ _)); exact BK377.out)) (b5 (by repeat (first | (with_reducible first | exact HB.out | apply b1 | apply b2 | apply b3 | refine b4 ?_ (IsS75.ge HI381.out) | refine b4 ?_ GE377.out) | exact HB.out)))); have n2_ := am (k4 (g := gb377) (o := .cells #[.int .i64 0, .int .i64 0, .int .i64 0] 30 (0, 0)) (by (with_reducible repeat (first | refine k2 ?_ _ | refine k3 ?_ | refine k1 ?_ _)); exact BK377.out) hb); have n3_ := am (IsS75.below (by repeat (first | (with_reducible first | exact HI381.out | apply IsS75.alloc | apply IsS75.drewN | apply IsS75.drew | apply IsS75.set_1 | apply IsS75.set_2 | refine IsS75.far ?_ NB381_377.out _) | exact HI381.out)) hb); have n4_ := am (b6 (by repeat (first | (with_reducible first | exact HB.out | apply b1 | apply b2 | apply b3 | refine b4 ?_ (IsS75.ge HI381.out) | refine b4 ?_ GE377.out) | exact HB.out)) hb); clear HO_5; clear BK377; clear HI381; clear HB; have HO_5 := n0_; have HO393 := n1_; have BK377 := n2_; have HI381 := n3_; have HB := n4_; clear n0_ n1_ n2_ n3_ n4_; (try clear hb); (try clear hb2); (try clear hk); (try clear hi); (try clear ho0); obtain ⟨Ao33, co33, eo33⟩ := Kd.R_slice HO393.out; subst eo33) | ((with_reducible refine gate_callee (f := 35) rfl ?_); refine goesL_ (some 33) rfl rfl Try.func35 (by kernel_rfl) rfl #[.pointer (some ⟨g381, 0, none⟩)] rfl (by (try simp only [List.map_toArray, List.map_cons, List.map_nil]); first | done | rfl | (simp only [List.length_drop, List.length_take]; rfl)) ?_; (with_reducible refine (spec_l24Draw.calls g381 t378 x382001_3 x382002_3 t398 t399 t400 t401 t402 w _ ?side1 ?side2 A30.out).mono ?_); (case side1 => repeat (first | (with_reducible first | exact HI381.out | apply IsS75.alloc | apply IsS75.drewN | apply IsS75.drew | apply IsS75.set_1 | apply IsS75.set_2 | refine IsS75.far ?_ NB381_377.out _) | exact HI381.out)); (case side2 => repeat (first | (with_reducible first | exact HB.out | apply b1 | apply b2 | apply b3 | refine b4 ?_ (IsS75.ge HI381.out) | refine b4 ?_ GE377.out) | exact HB.out)); rintro e w34 ⟨rfl, hi, hb, hk⟩; refine ⟨_, rfl, ?_⟩; have n0_ := am (Kd.R_mono (Kd.R_keep (IsS75.apart (show IsS75 w _ g381 t378 x382001_3 x382002_3 from by repeat (first | (with_reducible first | exact HI381.out | apply IsS75.alloc | apply IsS75.drewN | apply IsS75.drew | apply IsS75.set_1 | apply IsS75.set_2 | refine IsS75.far ?_ NB381_377.out _) | exact HI381.out)) (by (with_reducible repeat (first | apply Kd.R_alloc | apply Kd.R_drewN | apply Kd.R_drew)); exact HO_5.out) (by decide)) hk (fun _ h => h.2)) (fun _ h => h.1)); have n1_ := am (KeepBut.blk hk (g' := gb377) (o := .cells #[.int .i64 0, .int .i64 0, .int .i64 0] 30 (0, 0)) (by (with_reducible repeat (first | refine k2 ?_ _ | refine k3 ?_ | refine k1 ?_ _)); exact BK377.out) NB377_381.out (by simp)); have n2_ := am (Kd.R_mono (Kd.R_keep (IsS75.apart (show IsS75 w _ g381 t378 x382001_3 x382002_3 from by repeat (first | (with_reducible first | exact HI381.out | apply IsS75.alloc | apply IsS75.drewN | apply IsS75.drew | apply IsS75.set_1 | apply IsS75.set_2 | refine IsS75.far ?_ NB381_377.out _) | exact HI381.out)) (by (with_reducible repeat (first | apply Kd.R_alloc | apply Kd.R_drewN | apply Kd.R_drew)); exact HO393.out) (by decide)) hk (fun _ h => h.2)) (fun _ h => h.1)); have n3_ := am (hb); have n4_ := am (hi); clear HO_5; clear BK377; clear HO393; clear HB; clear HI381; have HO_5 := n0_; have BK377 := n1_; have HO393 := n2_; have HB := n3_; have HI381 := n4_; clear n0_ n1_ n2_ n3_ n4_; (try clear hb); (try clear hb2); (try clear hk); (try clear hi); have hnb35 := NB377_381.out; have hnc35 := NB381_377.out; have hcz36_0 : w34.cell? ⟨gb377, 0, none⟩ = some (.int .i64 0) := (kc BK377.out 0).trans rfl; have hcz36_1 : w34.cell? ⟨gb377, 1, none⟩ = some (.int .i64 0) := (kc BK377.out 1).trans rfl; have hcz36_2 : w34.cell? ⟨gb377, 2, none⟩ = some (.int .i64 0) := (kc BK377.out 2).trans rfl; have hfz36_0 := kf BK377.out 0; have hfz36_1 := kf BK377.out 1; have hfz36_2 := kf BK377.out 2))
     refine bodyPost_ret (results_tc rfl _ _ gb377 30 #[.int .i64 t398, .int .i64 t399, .int .i64 t400] (0, 0) _ rfl (by (with_reducible repeat (first | refine k2 ?_ _ | refine k3 ?_ | refine k1 ?_ _)); refine blk_put (cs := #[.int .i64 t398, .int .i64 t399, .int .i64 0]) ?_ 2 _ rfl; (with_reducible repeat (first | refine k2 ?_ _ | refine k3 ?_ | refine k1 ?_ _)); refine blk_put (cs := #[.int .i64 t398, .int .i64 0, .int .i64 0]) ?_ 1 _ rfl; (with_reducible repeat (first | refine k2 ?_ _ | refine k3 ?_ | refine k1 ?_ _)); refine blk_put (cs := #[.int .i64 0, .int .i64 0, .int .i64 0]) ?_ 0 _ rfl; (with_reducible repeat (first | refine k2 ?_ _ | refine k3 ?_ | refine k1 ?_ _)); exact BK377.out) Try.underlying30 rfl (by kernel_rfl)) rfl ?_
     exact ⟨_, by first | rfl | (simp [errW_none, errW_some] <;> rfl) | (simp [*, errW_none, errW_some] <;> rfl), by (with_reducible repeat (first | apply Kd.R_alloc | apply Kd.R_drewN | apply Kd.R_drew)); exact Kd.R_mono (Kd.R_far (p := ⟨gb377, 2, none⟩) (Kd.R_far (p := ⟨gb377, 1, none⟩) (Kd.R_far (p := ⟨gb377, 0, none⟩) (Kd.R_types HO_5.out BK377.out (by decide)) (fun _ hk => hk.2) (.int .i64 t398)) (fun _ hk => hk.2) (.int .i64 t399)) (fun _ hk => hk.2) (.int .i64 t400)) (fun _ hk => trivial), by repeat (first | (with_reducible first | exact HB.out | apply b1 | apply b2 | apply b3 | refine b4 ?_ (IsS75.ge HI381.out) | refine b4 ?_ GE377.out) | exact HB.out)⟩
   ·replace c16 := ef c16
    subst c16
    have H1 : ((spec_l24Draw.f t378 x382001_3 x382002_3).bind fun bt403 => (some (t382, bt403.1, bt403.2.1, bt403.2.2.1))) = some (r1, r2, r3, r4) := by first | (rw [if_neg (show ¬ (false = true) by decide)] at H; exact H) | rfl
    clear H
    have H := H1
    clear H1
    replace H := ob H
    obtain ⟨⟨t403, t404, t405, t406, t407⟩, A370, H⟩ := H
    replace H : (some (t382, t403, t404, t405)) = some (r1, r2, r3, r4) := H
    have A37 := am A370
    clear A370
    simp only [Option.some.injEq, Prod.mk.injEq] at H
    obtain ⟨rfl, rfl, rfl, rfl⟩ := H
    go_wp2_with (first | ((with_reducible refine gate_callee (f := 35) rfl ?_); refine goesL_ (some 33) rfl rfl Try.func35 (by kernel_rfl) rfl #[.pointer (some ⟨g381, 0, none⟩)] rfl (by (try simp only [List.map_toArray, List.map_cons, List.map_nil]); first | done | rfl | (simp only [List.length_drop, List.length_take]; rfl)) ?_; (with_reducible refine (spec_l24Draw.calls g381 t378 x382001_3 x382002_3 t403 t404 t405 t406 t407 w _ ?side1 ?side2 A37.out).mono ?_); (case side1 => repeat (first | (with_reducible first | exact HI381.out | apply IsS75.alloc | apply IsS75.drewN | apply IsS75.drew | apply IsS75.set_1 | apply IsS75.set_2 | refine IsS75.far ?_ NB381_377.out _) | exact HI381.out)); (case side2 => repeat (first | (with_reducible first | exact HB.out | apply b1 | apply b2 | apply b3 | refine b4 ?_ (IsS75.ge HI381.out) | refine b4 ?_ GE377.out) | exact HB.out)); rintro e w38 ⟨rfl, hi, hb, hk⟩; refine ⟨_, rfl, ?_⟩; have n0_ := am (Kd.R_mono (Kd.R_keep (IsS75.apart (show IsS75 w _ g381 t378 x382001_3 x382002_3 from by repeat (first | (with_reducible first | exact HI381.out | apply IsS75.alloc | apply IsS75.drewN | apply IsS75.drew | apply IsS75.set_1 | apply IsS75.set_2 | refine IsS75.far ?_ NB381_377.out _) | exact HI381.out)) (by (with_reducible repeat (first | apply Kd.R_alloc | apply Kd.R_drewN | apply Kd.R_drew)); exact HO_5.out) (by decide)) hk (fun _ h => h.2)) (fun _ h => h.1)); have n1_ := am (KeepBut.blk hk (g' := gb377) (o := .cells #[.int .i64 0, .int .i64 0, .int .i64 0] 30 (0, 0)) (by (with_reducible repeat (first | refine k2 ?_ _ | refine k3 ?_ | refine k1 ?_ _)); exact BK377.out) NB377_381.out (by simp)); have n2_ := am (hb); have n3_ := am (hi); clear HO_5; clear BK377; clear HB; clear HI381; have HO_5 := n0_; have BK377 := n1_; have HB := n2_; have HI381 := n3_; clear n0_ n1_ n2_ n3_; (try clear hb); (try clear hb2); (try clear hk); (try clear hi); have hnb39 := NB377_381.out; have hnc39 := NB381_377.out; have hcz40_0 : w38.cell? ⟨gb377, 0, none⟩ = some (.int .i64 0) := (kc BK377.out 0).trans rfl; have hcz40_1 : w38.cell? ⟨gb377, 1, none⟩ = some (.int .i64 0) := (kc BK377.out 1).trans rfl; have hcz40_2 : w38.cell? ⟨gb377, 2, none⟩ = some (.int .i64 0) := (kc BK377.out 2).trans rfl; have hfz40_0 := kf BK377.out 0; have hfz40_1 := kf BK377.out 1; have hfz40_2 := kf BK377.out 2))
    refine bodyPost_ret (results_tc rfl _ _ gb377 30 #[.int .i64 t403, .int .i64 t404, .int .i64 t405] (0, 0) _ rfl (by (with_reducible repeat (first | refine k2 ?_ _ | refine k3 ?_ | refine k1 ?_ _)); refine blk_put (cs := #[.int .i64 t403, .int .i64 t404, .int .i64 0]) ?_ 2 _ rfl; (with_reducible repeat (first | refine k2 ?_ _ | refine k3 ?_ | refine k1 ?_ _)); refine blk_put (cs := #[.int .i64 t403, .int .i64 0, .int .i64 0]) ?_ 1 _ rfl; (with_reducible repeat (first | refine k2 ?_ _ | refine k3 ?_ | refine k1 ?_ _)); refine blk_put (cs := #[.int .i64 0, .int .i64 0, .int .i64 0]) ?_ 0 _ rfl; (with_reducible repeat (first | refine k2 ?_ _ | refine k3 ?_ | refine k1 ?_ _)); exact BK377.out) Try.underlying30 rfl (by kernel_rfl)) rfl ?_
    exact ⟨_, by first | rfl | (simp [errW_none, errW_some] <;> rfl) | (simp [*, errW_none, errW_some] <;> rfl), by (with_reducible repeat (first | apply Kd.R_alloc | apply Kd.R_drewN | apply Kd.R_drew)); exact Kd.R_mono (Kd.R_far (p := ⟨gb377, 2, none⟩) (Kd.R_far (p := ⟨gb377, 1, none⟩) (Kd.R_far (p := ⟨gb377, 0, none⟩) (Kd.R_types HO_5.out BK377.out (by decide)) (fun _ hk => hk.2) (.int .i64 t403)) (fun _ hk => hk.2) (.int .i64 t404)) (fun _ hk => hk.2) (.int .i64 t405)) (fun _ hk => trivial), by repeat (first | (with_reducible first | exact HB.out | apply b1 | apply b2 | apply b3 | refine b4 ?_ (IsS75.ge HI381.out) | refine b4 ?_ GE377.out) | exact HB.out)⟩

end Go.Proofs.Ytcgnnfaemjjljaa.Q
