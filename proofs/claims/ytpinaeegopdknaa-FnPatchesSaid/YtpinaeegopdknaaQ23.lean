/- Written by a program of this session (wip/tools/pp.py) out of the translation, with the kit's printer. -/
import Derived.Test.YtpinaeegopdknaaQ0
import Derived.Test.YtpinaeegopdknaaQ3
import Derived.Test.YtpinaeegopdknaaQ14
import Derived.Test.YtpinaeegopdknaaQGspecl01From
import Derived.Test.YtpinaeegopdknaaQGspecl01Next
import Derived.Test.YtpinaeegopdknaaQ20
import Derived.Test.YtpinaeegopdknaaQ21
import Derived.Test.YtpinaeegopdknaaQ22
namespace Go.Proofs.Ytpinaeegopdknaa.Q
open Go.RowKit Go.Proofs.YtpinaeegopdknaaW.PrintWords Go.Proofs.YtpinaeegopdknaaW.PrintLast Go.Proofs.YtpinaeegopdknaaW.PrintMore
attribute [local go_sem] max2_int min2_int max_two min_two max_three min_three max_four min_four
set_option linter.unusedVariables false
set_option linter.unusedSimpArgs false

/-! ### spec_DrawDoesTile: function 27 -/
def spec_DrawDoesTile.j0 : Nat → List (S43) → Bool → List Int → Int → Int → Option ((List (S43)) × Int × Int × Int)
 | 0, _, _, _, _, _ => none
 | k + 1, x5, x17, x422000, x422001, x422002 => if x17 = true then ((spec_l24Lattices.f k x5).bind fun t431 => (if (t431.length : Int) > 0 then ((spec_l01Next.f x422000 x422001 x422002 (t431.length : Int)).bind fun bt434 => (if 0 ≤ bt434.1 then (if bt434.1 < (t431.length : Int) then (some (x5, (rd_T30 t431 bt434.1).f0, (rd_T30 t431 bt434.1).f1, (rd_T30 t431 bt434.1).f2)) else (none)) else (none))) else ((spec_l24Draw.f x422000 x422001 x422002).bind fun bt438 => (some (x5, bt438.1, bt438.2.1, bt438.2.2.1))))) else ((spec_l24Draw.f x422000 x422001 x422002).bind fun bt443 => (some (x5, bt443.1, bt443.2.1, bt443.2.2.1)))
def spec_DrawDoesTile.f (k : Nat) (l0 : List Int) : Option ((List (S43)) × Int × Int × Int) := (spec_l01From.f l0).bind fun bt418 => ((spec_l02Draw.f k bt418.1 bt418.2.1 bt418.2.2).bind fun bt422 => ((spec_IsShape.f k bt422.1).bind fun t427 => (if t427 = true then ((spec_l01Next.f bt418.1 bt422.2.1 bt422.2.2 2).bind fun bt428 => (spec_DrawDoesTile.j0 k bt422.1 (bt428.1 == 0) bt418.1 bt428.2.1 bt428.2.2)) else (spec_DrawDoesTile.j0 k bt422.1 false bt418.1 bt422.2.1 bt422.2.2))))
theorem spec_DrawDoesTile.mono_l : ∀ k, (∀ y0 y1 y2 y3 y4, LeO (spec_DrawDoesTile.j0 k y0 y1 y2 y3 y4) (spec_DrawDoesTile.j0 (k + 1) y0 y1 y2 y3 y4))
 | 0 => fun _ _ _ _ _ r h => by simp [spec_DrawDoesTile.j0] at h
 | k + 1 => by
  have ih0 := spec_DrawDoesTile.mono_l k
  ·intro y0 y1 y2 y3 y4
   unfold spec_DrawDoesTile.j0
   repeat' first
   | (with_reducible exact ih0 _ _ _ _ _)
   | (with_reducible exact spec_IsShape.mono _ _)
   | (with_reducible exact spec_l02Draw.mono _ _ _ _)
   | (with_reducible exact spec_l24Lattices.mono _ _)
   | (with_reducible exact LeO.refl _)
   | (with_reducible exact LeO.none _)
   | (with_reducible refine LeO.ite ?_ ?_)
   | (with_reducible refine LeO.bind ?_ (fun _ => ?_))
   | exact ih0 _ _ _ _ _
   | exact spec_IsShape.mono _ _
   | exact spec_l02Draw.mono _ _ _ _
   | exact spec_l24Lattices.mono _ _
   | exact LeO.none _
   | refine LeO.ite ?_ ?_
   | refine LeO.bind ?_ (fun _ => ?_)
theorem spec_DrawDoesTile.mono : ∀ a0 k, LeO (spec_DrawDoesTile.f k a0) (spec_DrawDoesTile.f (k + 1) a0) := by
 intro a0 k
 have ih0 := spec_DrawDoesTile.mono_l k
 unfold spec_DrawDoesTile.f
 repeat' first
   | (with_reducible exact ih0 _ _ _ _ _)
   | (with_reducible exact spec_IsShape.mono _ _)
   | (with_reducible exact spec_l02Draw.mono _ _ _ _)
   | (with_reducible exact spec_l24Lattices.mono _ _)
   | (with_reducible exact LeO.refl _)
   | (with_reducible exact LeO.none _)
   | (with_reducible refine LeO.ite ?_ ?_)
   | (with_reducible refine LeO.bind ?_ (fun _ => ?_))
   | exact ih0 _ _ _ _ _
   | exact spec_IsShape.mono _ _
   | exact spec_l02Draw.mono _ _ _ _
   | exact spec_l24Lattices.mono _ _
   | exact LeO.none _
   | refine LeO.ite ?_ ?_
   | refine LeO.bind ?_ (fun _ => ?_)
def spec_DrawDoesTile.T6 : Bool × List (List Nat × List Nat) := (true, [([], []), ([], []), ([], []), ([], []), ([3], [3]), ([2, 4], [2, 4]), ([1, 5], [1, 5]), ([6], [6]), ([0, 5, 0], [0]), ([7, 8, 0, 1, 2, 3, 4, 5, 6, 7, 8], [7])])
def spec_DrawDoesTile.B6 : List Nat := [0, 0, 0, 0, 8, 28, 62, 126, 61, 511]
theorem spec_DrawDoesTile.tab6 : rtab .any (opsOf Try.f27 6) = spec_DrawDoesTile.T6 := by kernel_rfl
theorem spec_DrawDoesTile.bits6 : waitsOk spec_DrawDoesTile.T6.2 spec_DrawDoesTile.B6 = true := by kernel_rfl
set_option maxHeartbeats 8000000 in
set_option maxRecDepth 100000 in
theorem spec_DrawDoesTile.calls (k : Nat) (A0 : Option Addr) (c0 : Nat) (l0 : List Int) (r1 : List (S43)) (r2 : Int) (r3 : Int) (r4 : Int) (w : World) (hr0 : Kd.C (Kd.int .u8) w A0 l0.length l0) (hc0 : l0.length ≤ c0) (h : spec_DrawDoesTile.f k l0 = some (r1, r2, r3, r4)) :
  Calls Try.prog 27 #[.slice A0 l0.length c0] w fun e w' => ∃ v0_ : Value, e = .returned (.tuple #[v0_, .agg #[.int .i64 r2, .int .i64 r3, .int .i64 r4]]) ∧ Kd.R k43 43 w' w.heap.size (fun _ => True) v0_ r1 ∧ Below w.heap.size w w' := by
 have hu30 := Try.underlying30
 have HR0 := am hr0
 have HC0 := am hc0
 clear hr0 hc0
 have HB := am (Below.refl w.heap.size w)
 have H : ((spec_l01From.f l0).bind fun bt418 => ((spec_l02Draw.f k bt418.1 bt418.2.1 bt418.2.2).bind fun bt422 => ((spec_IsShape.f k bt422.1).bind fun t427 => (if t427 = true then ((spec_l01Next.f bt418.1 bt422.2.1 bt422.2.2 2).bind fun bt428 => (spec_DrawDoesTile.j0 k bt422.1 (bt428.1 == 0) bt418.1 bt428.2.1 bt428.2.2)) else (spec_DrawDoesTile.j0 k bt422.1 false bt418.1 bt422.2.1 bt422.2.2))))) = some (r1, r2, r3, r4) := h
 clear h
 replace H := ob H
 obtain ⟨⟨t418, t419, t420⟩, A20, H⟩ := H
 replace H : ((spec_l02Draw.f k t418 t419 t420).bind fun bt422 => ((spec_IsShape.f k bt422.1).bind fun t427 => (if t427 = true then ((spec_l01Next.f t418 bt422.2.1 bt422.2.2 2).bind fun bt428 => (spec_DrawDoesTile.j0 k bt422.1 (bt428.1 == 0) t418 bt428.2.1 bt428.2.2)) else (spec_DrawDoesTile.j0 k bt422.1 false t418 bt422.2.1 bt422.2.2)))) = some (r1, r2, r3, r4) := H
 have A2 := am A20
 clear A20
 replace H := ob H
 obtain ⟨⟨t422, t425, t426⟩, A30, H⟩ := H
 replace H : ((spec_IsShape.f k t422).bind fun t427 => (if t427 = true then ((spec_l01Next.f t418 t425 t426 2).bind fun bt428 => (spec_DrawDoesTile.j0 k t422 (bt428.1 == 0) t418 bt428.2.1 bt428.2.2)) else (spec_DrawDoesTile.j0 k t422 false t418 t425 t426))) = some (r1, r2, r3, r4) := H
 have A3 := am A30
 clear A30
 have HC4 := am H
 clear H
 go_enter Try.func27, Try.ntmps27
 go_upto_region 3 with (first | ((with_reducible refine gate_dst (N := 3) rfl ?_); refine box_event ?hg (N := 3) ?hd (cs := #[.int .i64 0, .int .i64 0, .int .i64 0]) (t := 30) ?hr ?_; (case hd => rfl); (case hg => rfl); (case hr => first | (go_simp; done) | (go_simp; rfl)); intro gb417 hg w5 hbox hb; have n0_ := am (Bb6 (by repeat (first | (with_reducible first | exact HB.out | apply Bb1 | apply Bb2 | apply Bb3) | exact HB.out)) hb); have n1_ := am (hbox); have n2_ := am ((by rw [hg]; exact (Bb5 (by repeat (first | (with_reducible first | exact HB.out | apply Bb1 | apply Bb2 | apply Bb3) | exact HB.out))) : w.heap.size ≤ gb417)); have n3_ := n2_; clear HB; have HB := n0_; have BK417 := n1_; have GW417 := n2_; have GE417 := n3_; clear n0_ n1_ n2_ n3_; clear hb hbox hg) | ((with_reducible refine gate_callee (f := 26) rfl ?_); refine goesL_ (some 8) rfl rfl Try.func26 (by kernel_rfl) rfl #[.slice A0 l0.length c0] rfl (by (try simp only [List.map_toArray, List.map_cons, List.map_nil]); first | done | rfl | (simp only [List.length_drop, List.length_take]; rfl)) ?_; (with_reducible refine (spec_l01From.calls _ _ l0 t418 t419 t420 w _ ?side1 ?side2 ?side3 A2.out).mono ?_); (case side1 => repeat (first | (with_reducible first | exact HB.out | apply Bb1 | apply Bb2 | apply Bb3 | refine Bb4 ?_ GE417.out) | exact HB.out)); (case side2 => exact HR0.out); (case side3 => exact HC0.out); rintro e w6 ⟨g421, rfl, hi, hb, hb2⟩; refine ⟨_, rfl, ?_⟩; have n0_ := am (Bk4 (g := gb417) (o := .cells #[.int .i64 0, .int .i64 0, .int .i64 0] 30 (0, 0)) (by (with_reducible repeat (first | refine Bk2 ?_ _ | refine Bk3 ?_ | refine Bk1 ?_ _)); exact BK417.out) hb2); have n1_ := am (hb); have n2_ := am (hi); have n3_ := am (IsS65.ne_blk hi (Bk4 (g := gb417) (o := .cells #[.int .i64 0, .int .i64 0, .int .i64 0] 30 (0, 0)) (by (with_reducible repeat (first | refine Bk2 ?_ _ | refine Bk3 ?_ | refine Bk1 ?_ _)); exact BK417.out) hb2) (by decide)); have n4_ := am (Ne.symm (IsS65.ne_blk hi (Bk4 (g := gb417) (o := .cells #[.int .i64 0, .int .i64 0, .int .i64 0] 30 (0, 0)) (by (with_reducible repeat (first | refine Bk2 ?_ _ | refine Bk3 ?_ | refine Bk1 ?_ _)); exact BK417.out) hb2) (by decide))); clear BK417; clear HB; have BK417 := n0_; have HB := n1_; have HI421 := n2_; have NB421_417 := n3_; have NB417_421 := n4_; clear n0_ n1_ n2_ n3_ n4_; (try clear hb); (try clear hb2); (try clear hk); (try clear hi)) | ((with_reducible refine gate_callee (f := 36) rfl ?_); refine goesL_ (some 10) rfl rfl Try.func36 (by kernel_rfl) rfl #[.pointer (some ⟨g421, 0, none⟩)] rfl (by (try simp only [List.map_toArray, List.map_cons, List.map_nil]); first | done | rfl | (simp only [List.length_drop, List.length_take]; rfl)) ?_; (with_reducible refine (spec_l02Draw.calls k g421 t418 t419 t420 t422 t425 t426 w _ ?side1 ?side2 A3.out).mono ?_); (case side1 => repeat (first | (with_reducible first | exact HI421.out | apply IsS65.alloc | apply IsS65.drewN | apply IsS65.drew | apply IsS65.set_1 | apply IsS65.set_2 | refine IsS65.far ?_ NB421_417.out _) | exact HI421.out)); (case side2 => repeat (first | (with_reducible first | exact HB.out | apply Bb1 | apply Bb2 | apply Bb3 | refine Bb4 ?_ (IsS65.ge HI421.out) | refine Bb4 ?_ GE417.out) | exact HB.out)); rintro e w7 ⟨v423, rfl, ho0, hi, hb, hk⟩; refine ⟨_, rfl, ?_⟩; have n0_ := am (KeepBut.blk hk (g' := gb417) (o := .cells #[.int .i64 0, .int .i64 0, .int .i64 0] 30 (0, 0)) (by (with_reducible repeat (first | refine Bk2 ?_ _ | refine Bk3 ?_ | refine Bk1 ?_ _)); exact BK417.out) NB417_421.out (by simp)); have n1_ := am (Kd.R_lower ho0 (Bb5 (by repeat (first | (with_reducible first | exact HB.out | apply Bb1 | apply Bb2 | apply Bb3 | refine Bb4 ?_ (IsS65.ge HI421.out) | refine Bb4 ?_ GE417.out) | exact HB.out)))); have n2_ := am (hb); have n3_ := am (hi); clear BK417; clear HB; clear HI421; have BK417 := n0_; have HO424 := n1_; have HB := n2_; have HI421 := n3_; clear n0_ n1_ n2_ n3_; (try clear hb); (try clear hb2); (try clear hk); (try clear hi); (try clear ho0)))
 (try simp only [Act.put, sa])
 go_cut [17] (fun v17 wc => ∃ (kq : Nat) (x17_3 : Bool) (x422001_3 : Int) (x422002_3 : Int), v17 = .bool x17_3 ∧ Aside0 (spec_DrawDoesTile.j0 kq t422 x17_3 t418 x422001_3 x422002_3 = some (r1, r2, r3, r4)) ∧ Aside0 (kq ≤ k) ∧ Aside0 (Kd.R k43 43 wc w.heap.size (fun _ => True) v423 t422) ∧ Aside0 (wc.heap[gb417]? = some (.cells #[.int .i64 0, .int .i64 0, .int .i64 0] 30 (0, 0))) ∧ Aside0 (IsS65 w wc g421 t418 x422001_3 x422002_3) ∧ Aside0 (Below w.heap.size w wc))
 case first =>
  have H := HC4.out
  clear HC4
  replace H := ob H
  obtain ⟨t427, A80, H⟩ := H
  replace H : (if t427 = true then ((spec_l01Next.f t418 t425 t426 2).bind fun bt428 => (spec_DrawDoesTile.j0 k t422 (bt428.1 == 0) t418 bt428.2.1 bt428.2.2)) else (spec_DrawDoesTile.j0 k t422 false t418 t425 t426)) = some (r1, r2, r3, r4) := H
  have A8 := am A80
  clear A80
  by_cases c9 : t427 = true
  ·subst c9
   have H1 : ((spec_l01Next.f t418 t425 t426 2).bind fun bt428 => (spec_DrawDoesTile.j0 k t422 (bt428.1 == 0) t418 bt428.2.1 bt428.2.2)) = some (r1, r2, r3, r4) := by first | (rw [if_pos rfl] at H; exact H) | rfl
   clear H
   have H := H1
   clear H1
   replace H := ob H
   obtain ⟨⟨t428, t429, t430⟩, A100, H⟩ := H
   replace H : (spec_DrawDoesTile.j0 k t422 (t428 == 0) t418 t429 t430) = some (r1, r2, r3, r4) := H
   have A10 := am A100
   clear A100
   have H' := am H
   clear H
   obtain ⟨Ao11, co11, eo11⟩ := Kd.R_slice HO424.out
   subst eo11
   go_wp2_with (first | ((with_reducible refine gate_callee (f := 13) rfl ?_); refine goesL_ (some 12) rfl rfl Try.func13 (by kernel_rfl) rfl #[.slice Ao11 t422.length co11] rfl (by (try simp only [List.map_toArray, List.map_cons, List.map_nil]); first | done | rfl | (simp only [List.length_drop, List.length_take]; rfl)) ?_; (with_reducible refine (spec_IsShape.calls k _ _ t422 true _ ?side1 ?side2 A8.out).mono ?_); (case side1 => repeat (first | exact (Kd.R_reads' HO424.out).2.2 | (with_reducible refine Kd.C_alloc ?_ _) | (with_reducible refine Kd.C_drewN ?_ _) | (with_reducible refine Kd.C_drew ?_))); (case side2 => exact (Kd.R_reads' HO424.out).2.1); rintro e w12 ⟨rfl, hb⟩; refine ⟨_, rfl, ?_⟩; have n0_ := am (Kd.R_below (by (with_reducible repeat (first | apply Kd.R_alloc | apply Kd.R_drewN | apply Kd.R_drew)); exact HO424.out) hb); have n1_ := am (Bk4 (g := gb417) (o := .cells #[.int .i64 0, .int .i64 0, .int .i64 0] 30 (0, 0)) (by (with_reducible repeat (first | refine Bk2 ?_ _ | refine Bk3 ?_ | refine Bk1 ?_ _)); exact BK417.out) hb); have n2_ := am (IsS65.below (by repeat (first | (with_reducible first | exact HI421.out | apply IsS65.alloc | apply IsS65.drewN | apply IsS65.drew | apply IsS65.set_1 | apply IsS65.set_2 | refine IsS65.far ?_ NB421_417.out _) | exact HI421.out)) hb); have n3_ := am (Bb6 (by repeat (first | (with_reducible first | exact HB.out | apply Bb1 | apply Bb2 | apply Bb3 | refine Bb4 ?_ (IsS65.ge HI421.out) | refine Bb4 ?_ GE417.out) | exact HB.out)) hb); clear HO424; clear BK417; clear HI421; clear HB; have HO424 := n0_; have BK417 := n1_; have HI421 := n2_; have HB := n3_; clear n0_ n1_ n2_ n3_; (try clear hb); (try clear hb2); (try clear hk); (try clear hi)) | (go_at_call 28; (with_reducible refine (spec_l01Next.calls g421 t418 t425 t426 2 t428 t429 t430 w _ ?side1 ?side2 A10.out).mono ?_); (case side1 => repeat (first | (with_reducible first | exact HI421.out | apply IsS65.alloc | apply IsS65.drewN | apply IsS65.drew | apply IsS65.set_1 | apply IsS65.set_2 | refine IsS65.far ?_ NB421_417.out _) | exact HI421.out)); (case side2 => repeat (first | (with_reducible first | exact HB.out | apply Bb1 | apply Bb2 | apply Bb3 | refine Bb4 ?_ (IsS65.ge HI421.out) | refine Bb4 ?_ GE417.out) | exact HB.out)); rintro e w13 ⟨rfl, hi, hb, hk⟩; have n0_ := am (KeepBut.blk hk (g' := gb417) (o := .cells #[.int .i64 0, .int .i64 0, .int .i64 0] 30 (0, 0)) (by (with_reducible repeat (first | refine Bk2 ?_ _ | refine Bk3 ?_ | refine Bk1 ?_ _)); exact BK417.out) NB417_421.out (by simp)); have n1_ := am (Kd.R_mono (Kd.R_keep (IsS65.apart (show IsS65 w _ g421 t418 t425 t426 from by repeat (first | (with_reducible first | exact HI421.out | apply IsS65.alloc | apply IsS65.drewN | apply IsS65.drew | apply IsS65.set_1 | apply IsS65.set_2 | refine IsS65.far ?_ NB421_417.out _) | exact HI421.out)) (by (with_reducible repeat (first | apply Kd.R_alloc | apply Kd.R_drewN | apply Kd.R_drew)); exact HO424.out) (by decide)) hk (fun _ h => h.2)) (fun _ h => h.1)); have n2_ := am (hb); have n3_ := am (hi); clear BK417; clear HO424; clear HB; clear HI421; have BK417 := n0_; have HO424 := n1_; have HB := n2_; have HI421 := n3_; clear n0_ n1_ n2_ n3_; (try clear hb); (try clear hb2); (try clear hk); (try clear hi)))
   go_meet
   case rel => exact ⟨_, ((t428 == 0)), (t429), (t430), (by first | rfl | (simp; done) | (simp [*]; done)), H', ⟨by first | omega | exact Nat.le_refl _⟩, ⟨by (with_reducible repeat (first | apply Kd.R_alloc | apply Kd.R_drewN | apply Kd.R_drew)); exact HO424.out⟩, ⟨by (with_reducible repeat (first | refine Bk2 ?_ _ | refine Bk3 ?_ | refine Bk1 ?_ _)); exact BK417.out⟩, ⟨by repeat (first | (with_reducible first | exact HI421.out | apply IsS65.alloc | apply IsS65.drewN | apply IsS65.drew | apply IsS65.set_1 | apply IsS65.set_2 | refine IsS65.far ?_ NB421_417.out _) | exact HI421.out)⟩, ⟨by repeat (first | (with_reducible first | exact HB.out | apply Bb1 | apply Bb2 | apply Bb3 | refine Bb4 ?_ (IsS65.ge HI421.out) | refine Bb4 ?_ GE417.out) | exact HB.out)⟩⟩
  ·replace c9 := ef c9
   subst c9
   have H1 : (spec_DrawDoesTile.j0 k t422 false t418 t425 t426) = some (r1, r2, r3, r4) := by first | (rw [if_neg (show ¬ (false = true) by decide)] at H; exact H) | rfl
   clear H
   have H := H1
   clear H1
   have H' := am H
   clear H
   obtain ⟨Ao14, co14, eo14⟩ := Kd.R_slice HO424.out
   subst eo14
   go_wp2_with (first | ((with_reducible refine gate_callee (f := 13) rfl ?_); refine goesL_ (some 12) rfl rfl Try.func13 (by kernel_rfl) rfl #[.slice Ao14 t422.length co14] rfl (by (try simp only [List.map_toArray, List.map_cons, List.map_nil]); first | done | rfl | (simp only [List.length_drop, List.length_take]; rfl)) ?_; (with_reducible refine (spec_IsShape.calls k _ _ t422 false _ ?side1 ?side2 A8.out).mono ?_); (case side1 => repeat (first | exact (Kd.R_reads' HO424.out).2.2 | (with_reducible refine Kd.C_alloc ?_ _) | (with_reducible refine Kd.C_drewN ?_ _) | (with_reducible refine Kd.C_drew ?_))); (case side2 => exact (Kd.R_reads' HO424.out).2.1); rintro e w15 ⟨rfl, hb⟩; refine ⟨_, rfl, ?_⟩; have n0_ := am (Kd.R_below (by (with_reducible repeat (first | apply Kd.R_alloc | apply Kd.R_drewN | apply Kd.R_drew)); exact HO424.out) hb); have n1_ := am (Bk4 (g := gb417) (o := .cells #[.int .i64 0, .int .i64 0, .int .i64 0] 30 (0, 0)) (by (with_reducible repeat (first | refine Bk2 ?_ _ | refine Bk3 ?_ | refine Bk1 ?_ _)); exact BK417.out) hb); have n2_ := am (IsS65.below (by repeat (first | (with_reducible first | exact HI421.out | apply IsS65.alloc | apply IsS65.drewN | apply IsS65.drew | apply IsS65.set_1 | apply IsS65.set_2 | refine IsS65.far ?_ NB421_417.out _) | exact HI421.out)) hb); have n3_ := am (Bb6 (by repeat (first | (with_reducible first | exact HB.out | apply Bb1 | apply Bb2 | apply Bb3 | refine Bb4 ?_ (IsS65.ge HI421.out) | refine Bb4 ?_ GE417.out) | exact HB.out)) hb); clear HO424; clear BK417; clear HI421; clear HB; have HO424 := n0_; have BK417 := n1_; have HI421 := n2_; have HB := n3_; clear n0_ n1_ n2_ n3_; (try clear hb); (try clear hb2); (try clear hk); (try clear hi)))
   go_meet
   case rel => exact ⟨_, (false), (t425), (t426), (by first | rfl | (simp; done) | (simp [*]; done)), H', ⟨by first | omega | exact Nat.le_refl _⟩, ⟨by (with_reducible repeat (first | apply Kd.R_alloc | apply Kd.R_drewN | apply Kd.R_drew)); exact HO424.out⟩, ⟨by (with_reducible repeat (first | refine Bk2 ?_ _ | refine Bk3 ?_ | refine Bk1 ?_ _)); exact BK417.out⟩, ⟨by repeat (first | (with_reducible first | exact HI421.out | apply IsS65.alloc | apply IsS65.drewN | apply IsS65.drew | apply IsS65.set_1 | apply IsS65.set_2 | refine IsS65.far ?_ NB421_417.out _) | exact HI421.out)⟩, ⟨by repeat (first | (with_reducible first | exact HB.out | apply Bb1 | apply Bb2 | apply Bb3 | refine Bb4 ?_ (IsS65.ge HI421.out) | refine Bb4 ?_ GE417.out) | exact HB.out)⟩⟩
 case rest =>
  clear HC4
  try clear c1
  try clear c2
  try clear p2
  try clear c3
  try clear c9
  try clear c13
  obtain ⟨kq, x17_3, x422001_3, x422002_3, rfl, HA, HJ3, HO_5, BK417, HI421, HB⟩ := hcut
  cases kq with
  | zero => exact absurd HA.out (by simp [spec_DrawDoesTile.j0])
  | succ kj3 =>
   have H := HA.out
   clear HA
   simp only [spec_DrawDoesTile.j0] at H
   by_cases c16 : x17_3 = true
   ·subst c16
    have H1 : ((spec_l24Lattices.f kj3 t422).bind fun t431 => (if (t431.length : Int) > 0 then ((spec_l01Next.f t418 x422001_3 x422002_3 (t431.length : Int)).bind fun bt434 => (if 0 ≤ bt434.1 then (if bt434.1 < (t431.length : Int) then (some (t422, (rd_T30 t431 bt434.1).f0, (rd_T30 t431 bt434.1).f1, (rd_T30 t431 bt434.1).f2)) else (none)) else (none))) else ((spec_l24Draw.f t418 x422001_3 x422002_3).bind fun bt438 => (some (t422, bt438.1, bt438.2.1, bt438.2.2.1))))) = some (r1, r2, r3, r4) := by first | (rw [if_pos rfl] at H; exact H) | rfl
    clear H
    have H := H1
    clear H1
    replace H := ob H
    obtain ⟨t431, A170, H⟩ := H
    replace H : (if (t431.length : Int) > 0 then ((spec_l01Next.f t418 x422001_3 x422002_3 (t431.length : Int)).bind fun bt434 => (if 0 ≤ bt434.1 then (if bt434.1 < (t431.length : Int) then (some (t422, (rd_T30 t431 bt434.1).f0, (rd_T30 t431 bt434.1).f1, (rd_T30 t431 bt434.1).f2)) else (none)) else (none))) else ((spec_l24Draw.f t418 x422001_3 x422002_3).bind fun bt438 => (some (t422, bt438.1, bt438.2.1, bt438.2.2.1)))) = some (r1, r2, r3, r4) := H
    have A17 := am A170
    clear A170
    by_cases c18 : (t431.length : Int) > 0
    ·rw [if_pos c18] at H
     have c18b0 : decide (0 < (t431.length : Int)) = true := decide_eq_true c18
     have c18b1 : decide (0 < t431.length) = true := decide_eq_true (by omega)
     clear c18
     replace H := ob H
     obtain ⟨⟨t434, t435, t436⟩, A190, H⟩ := H
     replace H : (if 0 ≤ t434 then (if t434 < (t431.length : Int) then (some (t422, (rd_T30 t431 t434).f0, (rd_T30 t431 t434).f1, (rd_T30 t431 t434).f2)) else (none)) else (none)) = some (r1, r2, r3, r4) := H
     have A19 := am A190
     clear A190
     by_cases c20 : 0 ≤ t434
     ·rw [if_pos c20] at H
      have c20b0 : decide (0 ≤ t434) = true := decide_eq_true c20
      clear c20
      by_cases c21 : t434 < (t431.length : Int)
      ·rw [if_pos c21] at H
       have c21b0 : decide (t434 < (t431.length : Int)) = true := decide_eq_true c21
       clear c21
       simp only [Option.some.injEq, Prod.mk.injEq] at H
       obtain ⟨rfl, rfl, rfl, rfl⟩ := H
       obtain ⟨Ao22, co22, eo22⟩ := Kd.R_slice HO_5.out
       subst eo22
       try go_wp2_with (first | ((with_reducible refine gate_callee (f := 37) rfl ?_); refine goesL_ (some 19) rfl rfl Try.func37 (by kernel_rfl) rfl #[.slice Ao22 t422.length co22] rfl (by (try simp only [List.map_toArray, List.map_cons, List.map_nil]); first | done | rfl | (simp only [List.length_drop, List.length_take]; rfl)) ?_; (with_reducible refine (spec_l24Lattices.calls kj3 _ _ t422 t431 _ ?side1 ?side2 A17.out).mono ?_); (case side1 => repeat (first | exact (Kd.R_reads' HO_5.out).2.2 | (with_reducible refine Kd.C_alloc ?_ _) | (with_reducible refine Kd.C_drewN ?_ _) | (with_reducible refine Kd.C_drew ?_))); (case side2 => exact (Kd.R_reads' HO_5.out).2.1); rintro e w23 ⟨v432, rfl, ho0, hb⟩; refine ⟨_, rfl, ?_⟩; have n0_ := am (Kd.R_below (by (with_reducible repeat (first | apply Kd.R_alloc | apply Kd.R_drewN | apply Kd.R_drew)); exact HO_5.out) hb); have n1_ := am (Kd.R_lower (Kd.R_newB ho0 (g := gb417) (o := .cells #[.int .i64 0, .int .i64 0, .int .i64 0] 30 (0, 0)) (by (with_reducible repeat (first | refine Bk2 ?_ _ | refine Bk3 ?_ | refine Bk1 ?_ _)); exact BK417.out)) (Bb5 (by repeat (first | (with_reducible first | exact HB.out | apply Bb1 | apply Bb2 | apply Bb3 | refine Bb4 ?_ (IsS65.ge HI421.out) | refine Bb4 ?_ GE417.out) | exact HB.out)))); have n2_ := am (Bk4 (g := gb417) (o := .cells #[.int .i64 0, .int .i64 0, .int .i64 0] 30 (0, 0)) (by (with_reducible repeat (first | refine Bk2 ?_ _ | refine Bk3 ?_ | refine Bk1 ?_ _)); exact BK417.out) hb); have n3_ := am (IsS65.below (by repeat (first | (with_reducible first | exact HI421.out | apply IsS65.alloc | apply IsS65.drewN | apply IsS65.drew | apply IsS65.set_1 | apply IsS65.set_2 | refine IsS65.far ?_ NB421_417.out _) | exact HI421.out)) hb); have n4_ := am (Bb6 (by repeat (first | (with_reducible first | exact HB.out | apply Bb1 | apply Bb2 | apply Bb3 | refine Bb4 ?_ (IsS65.ge HI421.out) | refine Bb4 ?_ GE417.out) | exact HB.out)) hb); clear HO_5; clear BK417; clear HI421; clear HB; have HO_5 := n0_; have HO433 := n1_; have BK417 := n2_; have HI421 := n3_; have HB := n4_; clear n0_ n1_ n2_ n3_ n4_; (try clear hb); (try clear hb2); (try clear hk); (try clear hi); (try clear ho0); obtain ⟨Ao24, co24, eo24⟩ := Kd.R_slice HO433.out; subst eo24))
       have n0_ := am (Kd.R_drew HO_5.out)
       have n1_ := am (Kd.R_drew HO433.out)
       have n2_ := am (Bk3 BK417.out)
       have n3_ := am (IsS65.drew HI421.out)
       have n4_ := am (Bb3 HB.out)
       clear HO_5
       clear HO433
       clear BK417
       clear HI421
       clear HB
       have HO_5 := n0_
       have HO433 := n1_
       have BK417 := n2_
       have HI421 := n3_
       have HB := n4_
       clear n0_ n1_ n2_ n3_ n4_
       have p437 : 0 ≤ (t434 : Int) := of_decide_eq_true (by first | (with_reducible assumption) | assumption)
       have q437 : t434 < (t431.length : Int) := of_decide_eq_true (by first | (with_reducible assumption) | assumption)
       obtain ⟨ad437, e437, hx437_0, hx437_1, hx437_2⟩ := at_T30 (Kd.R_reads' HO433.out).2.2 t434 p437 q437
       cases e437
       replace p437 := eq_true p437
       replace q437 := eq_true q437
       refine start_ (n := 10) (S := fun w' => w'.cell? (ad437.add ((t434).toNat * 3)) = some (.int .i64 ((rd_T30 t431 t434).f0)) ∧ w'.cell? ⟨(ad437.add ((t434).toNat * 3)).block, (ad437.add ((t434).toNat * 3)).off + 1, none⟩ = some (.int .i64 ((rd_T30 t431 t434).f1)) ∧ w'.cell? ⟨(ad437.add ((t434).toNat * 3)).block, (ad437.add ((t434).toNat * 3)).off + 2, none⟩ = some (.int .i64 ((rd_T30 t431 t434).f2))) (ds := []) #[false, false, false, false, false, false, false, false, false, false] (by kernel_rfl) rfl rfl ⟨hx437_0, hx437_1, hx437_2⟩ (fun hHeld => ?_); refine with_tabW spec_DrawDoesTile.tab6 spec_DrawDoesTile.bits6 (fun HT_ HW_ => ?_)
       generalize w23.drew = w25 at HO_5 HO433 BK417 HI421 HB hx437_0 hx437_1 hx437_2 hHeld ⊢
       refine pure_ (i := 0) (N := some 23) (v := ?_) (a' := ?_) #[true, false, false, false, false, false, false, false, false, false] rfl rfl (any_of HT_.out (by kernel_rfl)) (fun _ _ _ h => h) (Or.inl ⟨by rfl, ?_⟩) ?_ ?_
       rotate_left
       ·intro w'
        go_simp
        with_reducible rfl
       rotate_left
       ·simp only [Act.put, sa, i64_w, i32_w]
        rfl
       refine pure_ (i := 1) (N := some 24) (v := ?_) (a' := ?_) #[true, true, false, false, false, false, false, false, false, false] rfl rfl (any_of HT_.out (by kernel_rfl)) (fun _ _ _ h => h) (Or.inl ⟨by rfl, ?_⟩) ?_ ?_
       rotate_left
       ·intro w'
        go_simp
        with_reducible rfl
       rotate_left
       ·simp only [Act.put, sa, i64_w, i32_w]
        rfl
       refine pure_ (i := 2) (N := some 25) (v := ?_) (a' := ?_) #[true, true, true, false, false, false, false, false, false, false] rfl rfl (any_of HT_.out (by kernel_rfl)) (fun _ _ _ h => h) (Or.inl ⟨by rfl, ?_⟩) ?_ ?_
       rotate_left
       ·intro w'
        go_simp
        with_reducible rfl
       rotate_left
       ·simp only [Act.put, sa, i64_w, i32_w]
        rfl
       refine pure_ (i := 3) (N := some 26) (v := ?_) (a' := ?_) #[true, true, true, true, false, false, false, false, false, false] rfl rfl (any_of HT_.out (by kernel_rfl)) (fun _ _ _ h => h) (Or.inl ⟨by rfl, ?_⟩) ?_ ?_
       rotate_left
       ·intro w'
        go_simp
        with_reducible rfl
       rotate_left
       ·simp only [Act.put, sa, i64_w, i32_w]
        rfl
       refine pure_ (i := 4) (N := some 27) (v := ?_) (a' := ?_) #[true, true, true, true, true, false, false, false, false, false] rfl rfl (any_of HT_.out (by kernel_rfl)) (fun _ _ _ h => h) (Or.inl ⟨by rfl, ?_⟩) ?_ ?_
       rotate_left
       ·intro w'
        go_simp
        with_reducible rfl
       rotate_left
       ·simp only [Act.put, sa, i64_w, i32_w]
        rfl
       refine one_ (i := 5) (N := some 28) #[true, true, true, true, true, true, false, false, false, false] rfl rfl (one_of HT_.out (by kernel_rfl)) (by decide) (fun K hK => ?_)
       refine goes_ Try.func28 (by kernel_rfl) rfl #[.pointer (some ⟨g421, 0, none⟩), .int .i64 (t431.length : Int)] (by rfl) rfl rfl (by (try simp only [List.map_toArray, List.map_cons, List.map_nil]); first | done | rfl | (simp only [List.length_drop, List.length_take]; rfl)) ?_
       with_reducible refine (spec_l01Next.calls g421 t418 x422001_3 x422002_3 (t431.length : Int) t434 t435 t436 w _ ?side1 ?side2 A19.out).mono ?_
       (case side1 => repeat (first | (with_reducible first | exact HI421.out | apply IsS65.alloc | apply IsS65.drewN | apply IsS65.drew | apply IsS65.set_1 | apply IsS65.set_2 | refine IsS65.far ?_ NB421_417.out _) | exact HI421.out))
       (case side2 => repeat (first | (with_reducible first | exact HB.out | apply Bb1 | apply Bb2 | apply Bb3 | refine Bb4 ?_ (IsS65.ge HI421.out) | refine Bb4 ?_ GE417.out) | exact HB.out))
       rintro e w26 ⟨rfl, hi, hb, hk⟩
       have HS0_ := keep_cell hk (hHeld.1) (by first | (rw [add_block]; exact Kd.own_blk (IsS65.own_ne HI421.out HO433.out (by decide))) | (show (Addr.add _ _).block ≠ _; rw [add_block]; exact Kd.own_blk (IsS65.own_ne HI421.out HO433.out (by decide))) | exact Kd.own_blk (IsS65.own_ne HI421.out HO433.out (by decide)))
       have HS1_ := keep_cell hk (hHeld.2.1) (by first | (rw [add_block]; exact Kd.own_blk (IsS65.own_ne HI421.out HO433.out (by decide))) | (show (Addr.add _ _).block ≠ _; rw [add_block]; exact Kd.own_blk (IsS65.own_ne HI421.out HO433.out (by decide))) | exact Kd.own_blk (IsS65.own_ne HI421.out HO433.out (by decide)))
       have HS2_ := keep_cell hk (hHeld.2.2) (by first | (rw [add_block]; exact Kd.own_blk (IsS65.own_ne HI421.out HO433.out (by decide))) | (show (Addr.add _ _).block ≠ _; rw [add_block]; exact Kd.own_blk (IsS65.own_ne HI421.out HO433.out (by decide))) | exact Kd.own_blk (IsS65.own_ne HI421.out HO433.out (by decide)))
       refine ⟨_, rfl, ?_⟩
       have n0_ := am (Kd.R_mono (Kd.R_keep (IsS65.apart (show IsS65 w _ g421 t418 x422001_3 x422002_3 from by repeat (first | (with_reducible first | exact HI421.out | apply IsS65.alloc | apply IsS65.drewN | apply IsS65.drew | apply IsS65.set_1 | apply IsS65.set_2 | refine IsS65.far ?_ NB421_417.out _) | exact HI421.out)) (by (with_reducible repeat (first | apply Kd.R_alloc | apply Kd.R_drewN | apply Kd.R_drew)); exact HO_5.out) (by decide)) hk (fun _ h => h.2)) (fun _ h => h.1))
       have n1_ := am (KeepBut.blk hk (g' := gb417) (o := .cells #[.int .i64 0, .int .i64 0, .int .i64 0] 30 (0, 0)) (by (with_reducible repeat (first | refine Bk2 ?_ _ | refine Bk3 ?_ | refine Bk1 ?_ _)); exact BK417.out) NB417_421.out (by simp))
       have n2_ := am (Kd.R_mono (Kd.R_keep (IsS65.apart (show IsS65 w _ g421 t418 x422001_3 x422002_3 from by repeat (first | (with_reducible first | exact HI421.out | apply IsS65.alloc | apply IsS65.drewN | apply IsS65.drew | apply IsS65.set_1 | apply IsS65.set_2 | refine IsS65.far ?_ NB421_417.out _) | exact HI421.out)) (by (with_reducible repeat (first | apply Kd.R_alloc | apply Kd.R_drewN | apply Kd.R_drew)); exact HO433.out) (by decide)) hk (fun _ h => h.2)) (fun _ h => h.1))
       have n3_ := am (hb)
       have n4_ := am (hi)
       clear HO_5
       clear BK417
       clear HO433
       clear HB
       clear HI421
       have HO_5 := n0_
       have BK417 := n1_
       have HO433 := n2_
       have HB := n3_
       have HI421 := n4_
       clear n0_ n1_ n2_ n3_ n4_
       (try clear hb)
       (try clear hb2)
       (try clear hk)
       (try clear hi)
       refine hK.out _ _ ⟨HS0_, HS1_, HS2_⟩ (fun hHeld => ?_)
       clear hK K
       refine norm_ (a' := ?_) ?_ ?_
       rotate_left
       ·show Act.put _ (some 28) _ = _
        simp only [Act.put, sa, i64_w, i32_w]
        rfl
       refine pure_ (i := 6) (N := some 29) (v := ?_) (a' := ?_) #[true, true, true, true, true, true, true, false, false, false] rfl rfl (any_of HT_.out (by kernel_rfl)) (fun _ _ _ h => h) (Or.inl ⟨by rfl, ?_⟩) ?_ ?_
       rotate_left
       ·intro w'
        go_simp
        with_reducible rfl
       rotate_left
       ·simp only [Act.put, sa, i64_w, i32_w]
        rfl
       refine pure_ (i := 8) (N := some 2) (v := ?_) (a' := ?_) #[true, true, true, true, true, true, true, false, true, false] rfl rfl (any_of HT_.out (by kernel_rfl)) (fun _ _ _ h => h) (Or.inl ⟨by rfl, ?_⟩) ?_ ?_
       rotate_left
       ·intro w'
        go_simp
        with_reducible rfl
       rotate_left
       ·simp only [Act.put, sa, i64_w, i32_w]
        rfl
       refine take_ (i := 7) (N := some 30) (v := ?_) (a' := ?_) #[true, true, true, true, true, true, true, true, true, false] rfl rfl (take_ofW HT_.out HW_.out (by kernel_rfl)) (fun _ _ _ h => h) (Or.inl ⟨by rfl, ?_⟩) hHeld ?_ ?_
       rotate_left
       ·rintro w' ⟨s0, s1, s2⟩
        go_simp
        with_reducible rfl
       rotate_left
       ·simp only [Act.put, sa, i64_w, i32_w]
        rfl
       refine one_ (i := 9) (N := none) #[true, true, true, true, true, true, true, true, true, true] rfl rfl (one_of HT_.out (by kernel_rfl)) (by decide) (fun K hK => ?_)
       have hs27 : w26.cell? ⟨gb417, 0, none⟩ = some (.int .i64 0) := (kc BK417.out 0).trans rfl
       have hfs27 := kf BK417.out 0
       have hs28 : w26.cell? ⟨gb417, 1, none⟩ = some (.int .i64 0) := (kc BK417.out 1).trans rfl
       have hfs28 := kf BK417.out 1
       have hs29 : w26.cell? ⟨gb417, 2, none⟩ = some (.int .i64 0) := (kc BK417.out 2).trans rfl
       have hfs29 := kf BK417.out 2
       refine skip_ (w1 := ?_) (by rfl) rfl ?_ ?_
       rotate_left
       ·go_simp
        rfl
       refine hK.out _ _ ⟨((cell_far (p := ⟨gb417, _, none⟩) (by first | exact Kd.own_blk (Kd.R_away HO433.out (fun _ hk => hk.2)) | (rw [add_block]; exact Kd.own_blk (Kd.R_away HO433.out (fun _ hk => hk.2))) | (show (Addr.add _ _).block ≠ _; rw [add_block]; exact Kd.own_blk (Kd.R_away HO433.out (fun _ hk => hk.2))) | (dsimp only; exact Kd.own_blk (Kd.R_away HO433.out (fun _ hk => hk.2)))) _).trans (((cell_far (p := ⟨gb417, _, none⟩) (by first | exact Kd.own_blk (Kd.R_away HO433.out (fun _ hk => hk.2)) | (rw [add_block]; exact Kd.own_blk (Kd.R_away HO433.out (fun _ hk => hk.2))) | (show (Addr.add _ _).block ≠ _; rw [add_block]; exact Kd.own_blk (Kd.R_away HO433.out (fun _ hk => hk.2))) | (dsimp only; exact Kd.own_blk (Kd.R_away HO433.out (fun _ hk => hk.2)))) _).trans (((cell_far (p := ⟨gb417, _, none⟩) (by first | exact Kd.own_blk (Kd.R_away HO433.out (fun _ hk => hk.2)) | (rw [add_block]; exact Kd.own_blk (Kd.R_away HO433.out (fun _ hk => hk.2))) | (show (Addr.add _ _).block ≠ _; rw [add_block]; exact Kd.own_blk (Kd.R_away HO433.out (fun _ hk => hk.2))) | (dsimp only; exact Kd.own_blk (Kd.R_away HO433.out (fun _ hk => hk.2)))) _).trans (hHeld.1)))))), ((cell_far (p := ⟨gb417, _, none⟩) (by first | exact Kd.own_blk (Kd.R_away HO433.out (fun _ hk => hk.2)) | (rw [add_block]; exact Kd.own_blk (Kd.R_away HO433.out (fun _ hk => hk.2))) | (show (Addr.add _ _).block ≠ _; rw [add_block]; exact Kd.own_blk (Kd.R_away HO433.out (fun _ hk => hk.2))) | (dsimp only; exact Kd.own_blk (Kd.R_away HO433.out (fun _ hk => hk.2)))) _).trans (((cell_far (p := ⟨gb417, _, none⟩) (by first | exact Kd.own_blk (Kd.R_away HO433.out (fun _ hk => hk.2)) | (rw [add_block]; exact Kd.own_blk (Kd.R_away HO433.out (fun _ hk => hk.2))) | (show (Addr.add _ _).block ≠ _; rw [add_block]; exact Kd.own_blk (Kd.R_away HO433.out (fun _ hk => hk.2))) | (dsimp only; exact Kd.own_blk (Kd.R_away HO433.out (fun _ hk => hk.2)))) _).trans (((cell_far (p := ⟨gb417, _, none⟩) (by first | exact Kd.own_blk (Kd.R_away HO433.out (fun _ hk => hk.2)) | (rw [add_block]; exact Kd.own_blk (Kd.R_away HO433.out (fun _ hk => hk.2))) | (show (Addr.add _ _).block ≠ _; rw [add_block]; exact Kd.own_blk (Kd.R_away HO433.out (fun _ hk => hk.2))) | (dsimp only; exact Kd.own_blk (Kd.R_away HO433.out (fun _ hk => hk.2)))) _).trans (hHeld.2.1)))))), ((cell_far (p := ⟨gb417, _, none⟩) (by first | exact Kd.own_blk (Kd.R_away HO433.out (fun _ hk => hk.2)) | (rw [add_block]; exact Kd.own_blk (Kd.R_away HO433.out (fun _ hk => hk.2))) | (show (Addr.add _ _).block ≠ _; rw [add_block]; exact Kd.own_blk (Kd.R_away HO433.out (fun _ hk => hk.2))) | (dsimp only; exact Kd.own_blk (Kd.R_away HO433.out (fun _ hk => hk.2)))) _).trans (((cell_far (p := ⟨gb417, _, none⟩) (by first | exact Kd.own_blk (Kd.R_away HO433.out (fun _ hk => hk.2)) | (rw [add_block]; exact Kd.own_blk (Kd.R_away HO433.out (fun _ hk => hk.2))) | (show (Addr.add _ _).block ≠ _; rw [add_block]; exact Kd.own_blk (Kd.R_away HO433.out (fun _ hk => hk.2))) | (dsimp only; exact Kd.own_blk (Kd.R_away HO433.out (fun _ hk => hk.2)))) _).trans (((cell_far (p := ⟨gb417, _, none⟩) (by first | exact Kd.own_blk (Kd.R_away HO433.out (fun _ hk => hk.2)) | (rw [add_block]; exact Kd.own_blk (Kd.R_away HO433.out (fun _ hk => hk.2))) | (show (Addr.add _ _).block ≠ _; rw [add_block]; exact Kd.own_blk (Kd.R_away HO433.out (fun _ hk => hk.2))) | (dsimp only; exact Kd.own_blk (Kd.R_away HO433.out (fun _ hk => hk.2)))) _).trans (hHeld.2.2))))))⟩ (fun hHeld => ?_)
       clear hK K
       refine done_ (done_of HT_.out (by kernel_rfl)) ?_
       try go_wp2
       refine bodyPost_ret (results_tc rfl _ _ gb417 30 #[.int .i64 ((rd_T30 t431 t434).f0), .int .i64 ((rd_T30 t431 t434).f1), .int .i64 ((rd_T30 t431 t434).f2)] (0, 0) _ rfl (by (with_reducible repeat (first | refine Bk2 ?_ _ | refine Bk3 ?_ | refine Bk1 ?_ _)); refine blk_put (cs := #[.int .i64 ((rd_T30 t431 t434).f0), .int .i64 ((rd_T30 t431 t434).f1), .int .i64 0]) ?_ 2 _ rfl; (with_reducible repeat (first | refine Bk2 ?_ _ | refine Bk3 ?_ | refine Bk1 ?_ _)); refine blk_put (cs := #[.int .i64 ((rd_T30 t431 t434).f0), .int .i64 0, .int .i64 0]) ?_ 1 _ rfl; (with_reducible repeat (first | refine Bk2 ?_ _ | refine Bk3 ?_ | refine Bk1 ?_ _)); refine blk_put (cs := #[.int .i64 0, .int .i64 0, .int .i64 0]) ?_ 0 _ rfl; (with_reducible repeat (first | refine Bk2 ?_ _ | refine Bk3 ?_ | refine Bk1 ?_ _)); exact BK417.out) Try.underlying30 rfl (by kernel_rfl)) rfl ?_
       exact ⟨_, by first | rfl | (simp [errW_none, errW_some] <;> rfl) | (simp [*, errW_none, errW_some] <;> rfl), by (with_reducible repeat (first | apply Kd.R_alloc | apply Kd.R_drewN | apply Kd.R_drew)); exact Kd.R_mono (Kd.R_far (p := ⟨gb417, 2, none⟩) (Kd.R_far (p := ⟨gb417, 1, none⟩) (Kd.R_far (p := ⟨gb417, 0, none⟩) (Kd.R_types HO_5.out BK417.out (by decide)) (fun _ hk => hk.2) (.int .i64 ((rd_T30 t431 t434).f0))) (fun _ hk => hk.2) (.int .i64 ((rd_T30 t431 t434).f1))) (fun _ hk => hk.2) (.int .i64 ((rd_T30 t431 t434).f2))) (fun _ hk => trivial), by repeat (first | (with_reducible first | exact HB.out | apply Bb1 | apply Bb2 | apply Bb3 | refine Bb4 ?_ (IsS65.ge HI421.out) | refine Bb4 ?_ GE417.out) | exact HB.out)⟩
      ·rw [if_neg c21] at H
       exact absurd H (by simp)
     ·rw [if_neg c20] at H
      exact absurd H (by simp)
    ·rw [if_neg c18] at H
     have c18b0 : decide (0 < (t431.length : Int)) = false := decide_eq_false c18
     have c18b1 : decide (0 < t431.length) = false := decide_eq_false (by omega)
     clear c18
     replace H := ob H
     obtain ⟨⟨t438, t439, t440, t441, t442⟩, A300, H⟩ := H
     replace H : (some (t422, t438, t439, t440)) = some (r1, r2, r3, r4) := H
     have A30 := am A300
     clear A300
     simp only [Option.some.injEq, Prod.mk.injEq] at H
     obtain ⟨rfl, rfl, rfl, rfl⟩ := H
     obtain ⟨Ao31, co31, eo31⟩ := Kd.R_slice HO_5.out
     subst eo31
     go_wp2_with (first | ((with_reducible refine gate_callee (f := 37) rfl ?_); refine goesL_ (some 19) rfl rfl Try.func37 (by kernel_rfl) rfl #[.slice Ao31 t422.length co31] rfl (by (try simp only [List.map_toArray, List.map_cons, List.map_nil]); first | done | rfl | (simp only [List.length_drop, List.length_take]; rfl)) ?_; (with_reducible refine (spec_l24Lattices.calls kj3 _ _ t422 t431 _ ?side1 ?side2 A17.out).mono ?_); (case side1 => repeat (first | exact (Kd.R_reads' HO_5.out).2.2 | (with_reducible refine Kd.C_alloc ?_ _) | (with_reducible refine Kd.C_drewN ?_ _) | (with_reducible refine Kd.C_drew ?_))); (case side2 => exact (Kd.R_reads' HO_5.out).2.1); rintro e w32 ⟨v432, rfl, ho0, hb⟩; refine ⟨_, rfl, ?_⟩; have n0_ := am (Kd.R_below (by (with_reducible repeat (first | apply Kd.R_alloc | apply Kd.R_drewN | apply Kd.R_drew)); exact HO_5.out) hb); have n1_ := am (Kd.R_lower (Kd.R_newB ho0 (g := gb417) (o := .cells #[.int .i64 0, .int .i64 0, .int .i64 0] 30 (0, 0)) (by (with_reducible repeat (first | refine Bk2 ?_ _ | refine Bk3 ?_ | refine Bk1 ?_ _)); exact BK417.out)) (Bb5 (by repeat (first | (with_reducible first | exact HB.out | apply Bb1 | apply Bb2 | apply Bb3 | refine Bb4 ?_ (IsS65.ge HI421.out) | refine Bb4 ?_ GE417.out) | exact HB.out)))); have n2_ := am (Bk4 (g := gb417) (o := .cells #[.int .i64 0, .int .i64 0, .int .i64 0] 30 (0, 0)) (by (with_reducible repeat (first | refine Bk2 ?_ _ | refine Bk3 ?_ | refine Bk1 ?_ _)); exact BK417.out) hb); have n3_ := am (IsS65.below (by repeat (first | (with_reducible first | exact HI421.out | apply IsS65.alloc | apply IsS65.drewN | apply IsS65.drew | apply IsS65.set_1 | apply IsS65.set_2 | refine IsS65.far ?_ NB421_417.out _) | exact HI421.out)) hb); have n4_ := am (Bb6 (by repeat (first | (with_reducible first | exact HB.out | apply Bb1 | apply Bb2 | apply Bb3 | refine Bb4 ?_ (IsS65.ge HI421.out) | refine Bb4 ?_ GE417.out) | exact HB.out)) hb); clear HO_5; clear BK417; clear HI421; clear HB; have HO_5 := n0_; have HO433 := n1_; have BK417 := n2_; have HI421 := n3_; have HB := n4_; clear n0_ n1_ n2_ n3_ n4_; (try clear hb); (try clear hb2); (try clear hk); (try clear hi); (try clear ho0); obtain ⟨Ao33, co33, eo33⟩ := Kd.R_slice HO433.out; subst eo33) | ((with_reducible refine gate_callee (f := 38) rfl ?_); refine goesL_ (some 33) rfl rfl Try.func38 (by kernel_rfl) rfl #[.pointer (some ⟨g421, 0, none⟩)] rfl (by (try simp only [List.map_toArray, List.map_cons, List.map_nil]); first | done | rfl | (simp only [List.length_drop, List.length_take]; rfl)) ?_; (with_reducible refine (spec_l24Draw.calls g421 t418 x422001_3 x422002_3 t438 t439 t440 t441 t442 w _ ?side1 ?side2 A30.out).mono ?_); (case side1 => repeat (first | (with_reducible first | exact HI421.out | apply IsS65.alloc | apply IsS65.drewN | apply IsS65.drew | apply IsS65.set_1 | apply IsS65.set_2 | refine IsS65.far ?_ NB421_417.out _) | exact HI421.out)); (case side2 => repeat (first | (with_reducible first | exact HB.out | apply Bb1 | apply Bb2 | apply Bb3 | refine Bb4 ?_ (IsS65.ge HI421.out) | refine Bb4 ?_ GE417.out) | exact HB.out)); rintro e w34 ⟨rfl, hi, hb, hk⟩; refine ⟨_, rfl, ?_⟩; have n0_ := am (Kd.R_mono (Kd.R_keep (IsS65.apart (show IsS65 w _ g421 t418 x422001_3 x422002_3 from by repeat (first | (with_reducible first | exact HI421.out | apply IsS65.alloc | apply IsS65.drewN | apply IsS65.drew | apply IsS65.set_1 | apply IsS65.set_2 | refine IsS65.far ?_ NB421_417.out _) | exact HI421.out)) (by (with_reducible repeat (first | apply Kd.R_alloc | apply Kd.R_drewN | apply Kd.R_drew)); exact HO_5.out) (by decide)) hk (fun _ h => h.2)) (fun _ h => h.1)); have n1_ := am (KeepBut.blk hk (g' := gb417) (o := .cells #[.int .i64 0, .int .i64 0, .int .i64 0] 30 (0, 0)) (by (with_reducible repeat (first | refine Bk2 ?_ _ | refine Bk3 ?_ | refine Bk1 ?_ _)); exact BK417.out) NB417_421.out (by simp)); have n2_ := am (Kd.R_mono (Kd.R_keep (IsS65.apart (show IsS65 w _ g421 t418 x422001_3 x422002_3 from by repeat (first | (with_reducible first | exact HI421.out | apply IsS65.alloc | apply IsS65.drewN | apply IsS65.drew | apply IsS65.set_1 | apply IsS65.set_2 | refine IsS65.far ?_ NB421_417.out _) | exact HI421.out)) (by (with_reducible repeat (first | apply Kd.R_alloc | apply Kd.R_drewN | apply Kd.R_drew)); exact HO433.out) (by decide)) hk (fun _ h => h.2)) (fun _ h => h.1)); have n3_ := am (hb); have n4_ := am (hi); clear HO_5; clear BK417; clear HO433; clear HB; clear HI421; have HO_5 := n0_; have BK417 := n1_; have HO433 := n2_; have HB := n3_; have HI421 := n4_; clear n0_ n1_ n2_ n3_ n4_; (try clear hb); (try clear hb2); (try clear hk); (try clear hi); have hnb35 := NB417_421.out; have hnc35 := NB421_417.out; have hcz36_0 : w34.cell? ⟨gb417, 0, none⟩ = some (.int .i64 0) := (kc BK417.out 0).trans rfl; have hcz36_1 : w34.cell? ⟨gb417, 1, none⟩ = some (.int .i64 0) := (kc BK417.out 1).trans rfl; have hcz36_2 : w34.cell? ⟨gb417, 2, none⟩ = some (.int .i64 0) := (kc BK417.out 2).trans rfl; have hfz36_0 := kf BK417.out 0; have hfz36_1 := kf BK417.out 1; have hfz36_2 := kf BK417.out 2))
     refine bodyPost_ret (results_tc rfl _ _ gb417 30 #[.int .i64 t438, .int .i64 t439, .int .i64 t440] (0, 0) _ rfl (by (with_reducible repeat (first | refine Bk2 ?_ _ | refine Bk3 ?_ | refine Bk1 ?_ _)); refine blk_put (cs := #[.int .i64 t438, .int .i64 t439, .int .i64 0]) ?_ 2 _ rfl; (with_reducible repeat (first | refine Bk2 ?_ _ | refine Bk3 ?_ | refine Bk1 ?_ _)); refine blk_put (cs := #[.int .i64 t438, .int .i64 0, .int .i64 0]) ?_ 1 _ rfl; (with_reducible repeat (first | refine Bk2 ?_ _ | refine Bk3 ?_ | refine Bk1 ?_ _)); refine blk_put (cs := #[.int .i64 0, .int .i64 0, .int .i64 0]) ?_ 0 _ rfl; (with_reducible repeat (first | refine Bk2 ?_ _ | refine Bk3 ?_ | refine Bk1 ?_ _)); exact BK417.out) Try.underlying30 rfl (by kernel_rfl)) rfl ?_
     exact ⟨_, by first | rfl | (simp [errW_none, errW_some] <;> rfl) | (simp [*, errW_none, errW_some] <;> rfl), by (with_reducible repeat (first | apply Kd.R_alloc | apply Kd.R_drewN | apply Kd.R_drew)); exact Kd.R_mono (Kd.R_far (p := ⟨gb417, 2, none⟩) (Kd.R_far (p := ⟨gb417, 1, none⟩) (Kd.R_far (p := ⟨gb417, 0, none⟩) (Kd.R_types HO_5.out BK417.out (by decide)) (fun _ hk => hk.2) (.int .i64 t438)) (fun _ hk => hk.2) (.int .i64 t439)) (fun _ hk => hk.2) (.int .i64 t440)) (fun _ hk => trivial), by repeat (first | (with_reducible first | exact HB.out | apply Bb1 | apply Bb2 | apply Bb3 | refine Bb4 ?_ (IsS65.ge HI421.out) | refine Bb4 ?_ GE417.out) | exact HB.out)⟩
   ·replace c16 := ef c16
    subst c16
    have H1 : ((spec_l24Draw.f t418 x422001_3 x422002_3).bind fun bt443 => (some (t422, bt443.1, bt443.2.1, bt443.2.2.1))) = some (r1, r2, r3, r4) := by first | (rw [if_neg (show ¬ (false = true) by decide)] at H; exact H) | rfl
    clear H
    have H := H1
    clear H1
    replace H := ob H
    obtain ⟨⟨t443, t444, t445, t446, t447⟩, A370, H⟩ := H
    replace H : (some (t422, t443, t444, t445)) = some (r1, r2, r3, r4) := H
    have A37 := am A370
    clear A370
    simp only [Option.some.injEq, Prod.mk.injEq] at H
    obtain ⟨rfl, rfl, rfl, rfl⟩ := H
    go_wp2_with (first | ((with_reducible refine gate_callee (f := 38) rfl ?_); refine goesL_ (some 33) rfl rfl Try.func38 (by kernel_rfl) rfl #[.pointer (some ⟨g421, 0, none⟩)] rfl (by (try simp only [List.map_toArray, List.map_cons, List.map_nil]); first | done | rfl | (simp only [List.length_drop, List.length_take]; rfl)) ?_; (with_reducible refine (spec_l24Draw.calls g421 t418 x422001_3 x422002_3 t443 t444 t445 t446 t447 w _ ?side1 ?side2 A37.out).mono ?_); (case side1 => repeat (first | (with_reducible first | exact HI421.out | apply IsS65.alloc | apply IsS65.drewN | apply IsS65.drew | apply IsS65.set_1 | apply IsS65.set_2 | refine IsS65.far ?_ NB421_417.out _) | exact HI421.out)); (case side2 => repeat (first | (with_reducible first | exact HB.out | apply Bb1 | apply Bb2 | apply Bb3 | refine Bb4 ?_ (IsS65.ge HI421.out) | refine Bb4 ?_ GE417.out) | exact HB.out)); rintro e w38 ⟨rfl, hi, hb, hk⟩; refine ⟨_, rfl, ?_⟩; have n0_ := am (Kd.R_mono (Kd.R_keep (IsS65.apart (show IsS65 w _ g421 t418 x422001_3 x422002_3 from by repeat (first | (with_reducible first | exact HI421.out | apply IsS65.alloc | apply IsS65.drewN | apply IsS65.drew | apply IsS65.set_1 | apply IsS65.set_2 | refine IsS65.far ?_ NB421_417.out _) | exact HI421.out)) (by (with_reducible repeat (first | apply Kd.R_alloc | apply Kd.R_drewN | apply Kd.R_drew)); exact HO_5.out) (by decide)) hk (fun _ h => h.2)) (fun _ h => h.1)); have n1_ := am (KeepBut.blk hk (g' := gb417) (o := .cells #[.int .i64 0, .int .i64 0, .int .i64 0] 30 (0, 0)) (by (with_reducible repeat (first | refine Bk2 ?_ _ | refine Bk3 ?_ | refine Bk1 ?_ _)); exact BK417.out) NB417_421.out (by simp)); have n2_ := am (hb); have n3_ := am (hi); clear HO_5; clear BK417; clear HB; clear HI421; have HO_5 := n0_; have BK417 := n1_; have HB := n2_; have HI421 := n3_; clear n0_ n1_ n2_ n3_; (try clear hb); (try clear hb2); (try clear hk); (try clear hi); have hnb39 := NB417_421.out; have hnc39 := NB421_417.out; have hcz40_0 : w38.cell? ⟨gb417, 0, none⟩ = some (.int .i64 0) := (kc BK417.out 0).trans rfl; have hcz40_1 : w38.cell? ⟨gb417, 1, none⟩ = some (.int .i64 0) := (kc BK417.out 1).trans rfl; have hcz40_2 : w38.cell? ⟨gb417, 2, none⟩ = some (.int .i64 0) := (kc BK417.out 2).trans rfl; have hfz40_0 := kf BK417.out 0; have hfz40_1 := kf BK417.out 1; have hfz40_2 := kf BK417.out 2))
    refine bodyPost_ret (results_tc rfl _ _ gb417 30 #[.int .i64 t443, .int .i64 t444, .int .i64 t445] (0, 0) _ rfl (by (with_reducible repeat (first | refine Bk2 ?_ _ | refine Bk3 ?_ | refine Bk1 ?_ _)); refine blk_put (cs := #[.int .i64 t443, .int .i64 t444, .int .i64 0]) ?_ 2 _ rfl; (with_reducible repeat (first | refine Bk2 ?_ _ | refine Bk3 ?_ | refine Bk1 ?_ _)); refine blk_put (cs := #[.int .i64 t443, .int .i64 0, .int .i64 0]) ?_ 1 _ rfl; (with_reducible repeat (first | refine Bk2 ?_ _ | refine Bk3 ?_ | refine Bk1 ?_ _)); refine blk_put (cs := #[.int .i64 0, .int .i64 0, .int .i64 0]) ?_ 0 _ rfl; (with_reducible repeat (first | refine Bk2 ?_ _ | refine Bk3 ?_ | refine Bk1 ?_ _)); exact BK417.out) Try.underlying30 rfl (by kernel_rfl)) rfl ?_
    exact ⟨_, by first | rfl | (simp [errW_none, errW_some] <;> rfl) | (simp [*, errW_none, errW_some] <;> rfl), by (with_reducible repeat (first | apply Kd.R_alloc | apply Kd.R_drewN | apply Kd.R_drew)); exact Kd.R_mono (Kd.R_far (p := ⟨gb417, 2, none⟩) (Kd.R_far (p := ⟨gb417, 1, none⟩) (Kd.R_far (p := ⟨gb417, 0, none⟩) (Kd.R_types HO_5.out BK417.out (by decide)) (fun _ hk => hk.2) (.int .i64 t443)) (fun _ hk => hk.2) (.int .i64 t444)) (fun _ hk => hk.2) (.int .i64 t445)) (fun _ hk => trivial), by repeat (first | (with_reducible first | exact HB.out | apply Bb1 | apply Bb2 | apply Bb3 | refine Bb4 ?_ (IsS65.ge HI421.out) | refine Bb4 ?_ GE417.out) | exact HB.out)⟩

end Go.Proofs.Ytpinaeegopdknaa.Q
