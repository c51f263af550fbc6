/- Written by a program of this session (wip/tools/pp.py) out of the translation, with the kit's printer. -/
import Derived.Test.YtbphiipcnjelbaaGreatQ0
import Derived.Test.YtbphiipcnjelbaaGreatQ2
import Derived.Test.YtbphiipcnjelbaaGreatQGspecl18Add
import Derived.Test.YtbphiipcnjelbaaGreatQGspecSpotsOf
import Derived.Test.YtbphiipcnjelbaaGreatQ7
import Derived.Test.YtbphiipcnjelbaaGreatQGimplSpotsOf
import Derived.Test.YtbphiipcnjelbaaGreatQ16
import Derived.Test.YtbphiipcnjelbaaGreatQGlawseqPiece
import Derived.Test.YtbphiipcnjelbaaGreatQ17
import Derived.Test.YtbphiipcnjelbaaGreatQGlawsmarkInt64SS
import Derived.Test.YtbphiipcnjelbaaGreatQ18
import Derived.Deep.RegionHeld3
namespace Go.Proofs.YtbphiipcnjelbaaGreat.Q
open Go.RowKit Go.Proofs.YtbphiipcnjelbaaGreatW.PrintWords Go.Proofs.YtbphiipcnjelbaaGreatW.PrintLast Go.Proofs.YtbphiipcnjelbaaGreatW.PrintMore
attribute [local go_sem] max2_int min2_int max_two min_two max_three min_three max_four min_four
set_option linter.unusedVariables false
set_option linter.unusedSimpArgs false
theorem srngI {w w' : World} {v : Value} {xs : List (List Int)} (h : Kd.S (Kd.slice 2 kI) 38 w' w.heap.size (fun _ => True) v xs) : Kd.S (Kd.slice 2 kI) 38 w' w.heap.size (fun k => w.heap.size ≤ k ∧ k < w'.heap.size) v xs := Kd.S_mono (Kd.S_bound h) (fun _ hk => ⟨hk.2.1, hk.2.2.1⟩)
theorem rrngG {α : Type} {d : Kd α} {e : Nat} {w w' : World} {v : Value} {xs : List α} (h : Kd.R d e w' w.heap.size (fun _ => True) v xs) : Kd.R d e w' w.heap.size (fun k => w.heap.size ≤ k ∧ k < w'.heap.size) v xs := Kd.R_mono (Kd.R_bound h) (fun _ hk => ⟨hk.2.1, hk.2.2.1⟩)
def SpotsLaw (k : Nat) (l0 : List S70) (a1 : Int) (a2 : Bool) (wide high : Int) : Prop :=
 ∃ s, laws_szPiece.f l0 a1 a2 1048576 = some s ∧ (s < 0 ∨ (0 ≤ s ∧ ∃ (x : List S66) (b1 : Int) (b2 : Bool) (c : Int) (r : List (List Int)), laws_toPiece.f k l0 a1 a2 = some (x, b1, b2) ∧ SpotsR k x b1 b2 wide high c r ∧ SpotsI k x b1 b2 wide high c r ∧
  laws_eqInt64SS.f k r r = some true ∧ laws_eqPiece.f k x b1 b2 x b1 b2 = some true ∧ ∃ (k1 : Int) (x' : List S66), laws_markPiece.f k x b1 b2 1 = some (k1, x') ∧ 0 ≤ k1 ∧ ∃ (q : Int) (r' : List (List Int)), markIS k r 1 = some (q, r') ∧ laws_heldInt64SS.f k r' 1 = some q ∧ 0 ≤ q))
open Classical in
noncomputable def laws_FnExactSpotsOf.f (k : Nat) (l0 : List S70) (a1 : Int) (a2 : Bool) (wide high : Int) : Option Bool := if SpotsLaw k l0 a1 a2 wide high then some true else none
set_option maxRecDepth 100000 in
set_option maxHeartbeats 4000000 in
theorem laws_FnExactSpotsOf.calls (k : Nat) (A0_0 : Option Addr) (c0_0 : Nat) (l0_0 : List S70) (a0_1 : Int) (a0_2 : Bool) (a1 a2 : Int) (w : World) (hr0_0 : Kd.C k70 w A0_0 l0_0.length l0_0) (hc0_0 : l0_0.length ≤ c0_0) (h : laws_FnExactSpotsOf.f k l0_0 a0_1 a0_2 a1 a2 = some true) :
  Calls Tryz.prog 3 #[.agg #[.slice A0_0 l0_0.length c0_0, .int .i64 a0_1, .bool a0_2], .int .i64 a1, .int .i64 a2] w fun e w' => e = .returned (.bool true) ∧ Below w.heap.size w w' := by
 have hu1 := Tryz.underlying31
 have hu2 := Tryz.underlying24
 unfold laws_FnExactSpotsOf.f at h
 by_cases hl : SpotsLaw k l0_0 a0_1 a0_2 a1 a2
 case neg => rw [if_neg hl] at h; cases h
 clear h
 have HR := Aside0.mk hr0_0
 have HB1 := Aside0.mk (below_alloc (Below.refl w.heap.size w) (.cells #[.slice A0_0 l0_0.length c0_0, .int .i64 a0_1, .bool a0_2] 24))
 have HBOX := Aside0.mk (heap_alloc_new w (.cells #[.slice A0_0 l0_0.length c0_0, .int .i64 a0_1, .bool a0_2] 24 (0, 0)))
 clear hr0_0
 obtain ⟨s, hs, hl⟩ := hl
 have HSZ := Aside0.mk hs
 clear hs
 rcases hl with hneg | ⟨hs0, x, b1, b2, c, r, hx, hR, hI, he1, he2, k1, x', hk1, hk10, q, r', hm, hh, hq0⟩
 ·have hd : decide (s < 0) = true := decide_eq_true hneg
  clear hneg
  go_enter Tryz.func3, Tryz.ntmps3
  go_wp2_with (go_at_call 6; (with_reducible refine (laws_szPiece.calls _ _ l0_0 _ _ 1048576 s _ (Kd.C_below HR.out HB1.out) hc0_0 HSZ.out).mono ?_); rintro e w2 ⟨rfl, hb2⟩)
  go_ret
  exact ⟨rfl, below_step HB1.out hb2⟩
 have HX := Aside0.mk hx
 have HSR := Aside0.mk hR
 have HSI := Aside0.mk hI
 have HE1 := Aside0.mk he1
 have HE2 := Aside0.mk he2
 have HK1 := Aside0.mk hk1
 have HMK := Aside0.mk hm
 have HHD := Aside0.mk hh
 have hd : decide (s < 0) = false := decide_eq_false (by omega)
 have hk1d : decide (k1 < 0) = false := decide_eq_false (by omega)
 have hqd : decide (q < 0) = false := decide_eq_false (by omega)
 have hqq : (q != q) = false := by simp
 have hcc : (c != c) = false := by simp
 clear hx hR hI he1 he2 hk1 hm hh hs0 hk10 hq0
 go_enter Tryz.func3, Tryz.ntmps3
 go_wp2_with (first
  | (go_at_call 6; (with_reducible refine (laws_szPiece.calls _ _ l0_0 _ _ 1048576 s _ (Kd.C_below HR.out HB1.out) hc0_0 HSZ.out).mono ?_); rintro e w2 ⟨rfl, hb2⟩; have HB2 := Aside0.mk (below_step HB1.out hb2); have HX2 := Aside0.mk (blk_below HBOX.out hb2); have x20 := (blk_cell HX2.out 0).trans rfl; have x21 := (blk_cell HX2.out 1).trans rfl; have x22 := (blk_cell HX2.out 2).trans rfl; clear hb2)
  | (go_at_call 8; (with_reducible refine (laws_toPiece.calls k _ _ l0_0 _ _ x b1 b2 _ (Kd.C_below HR.out HB2.out) hc0_0 HX.out).mono ?_); rintro e w3 ⟨v3, rfl, ho3, hb3⟩; obtain ⟨A3, c3, e3⟩ := Kd.R_slice ho3; subst e3; have HO3 := Aside0.mk ho3; have HB3 := Aside0.mk (below_step HB2.out hb3); have HX3 := Aside0.mk (blk_below HX2.out hb3); clear ho3 hb3 x20 x21 x22)
  | (go_at_call 7; (with_reducible refine (spec_SpotsOf.own k _ _ x b1 b2 a1 a2 c r _ (Kd.R_reads' HO3.out).2.2 (Kd.R_reads' HO3.out).2.1 HSR.out).mono ?_); rintro e w4 ⟨v4, rfl, ho4, hb4⟩; obtain ⟨A4, c4, e4⟩ := Kd.R_slice ho4; subst e4; have HO4 := Aside0.mk (rrngG ho4); have HB4 := Aside0.mk (below_step HB3.out hb4); have HX4 := Aside0.mk (blk_below HX3.out hb4); have x40 := (blk_cell HX4.out 0).trans rfl; have x41 := (blk_cell HX4.out 1).trans rfl; have x42 := (blk_cell HX4.out 2).trans rfl; clear ho4 hb4))
 go_wp2_with (first
  | (go_at_call 8; (with_reducible refine (laws_toPiece.calls k _ _ l0_0 _ _ x b1 b2 _ (Kd.C_below HR.out HB4.out) hc0_0 HX.out).mono ?_); rintro e w5 ⟨v5, rfl, ho5, hb5⟩; obtain ⟨A5, c5, e5⟩ := Kd.R_slice ho5; subst e5; have HO5 := Aside0.mk (rrngG ho5); have HS5 := Aside0.mk hb5.size; have HO45 := Aside0.mk (Kd.R_below HO4.out hb5); have HB5 := Aside0.mk (below_step HB4.out hb5); have HX5 := Aside0.mk (blk_below HX4.out hb5); have HBA := Aside0.mk (below_alloc (Below.refl w5.heap.size w5) (.cells #[.slice A5 x.length c5, .int .i64 b1, .bool b2] 31)); have HY5 := Aside0.mk (heap_alloc_new w5 (.cells #[.slice A5 x.length c5, .int .i64 b1, .bool b2] 31 (0, 0))); clear ho5 hb5 x40 x41 x42)
  | (go_at_call 9; (with_reducible refine (impl_SpotsOf.own k _ _ x b1 b2 a1 a2 c r _ (Kd.R_reads' (Kd.R_below HO5.out HBA.out)).2.2 (Kd.R_reads' HO5.out).2.1 HSI.out).mono ?_); rintro e w6 ⟨v6, rfl, ho6, hb6⟩; obtain ⟨A6, c6, e6⟩ := Kd.S_slice ho6; subst e6; have HO6 := Aside0.mk (srngI ho6); have HS6 := Aside0.mk hb6.size; have HO46 := Aside0.mk (Kd.R_below (Kd.R_below HO45.out HBA.out) hb6); have HO56 := Aside0.mk (Kd.R_below (Kd.R_below HO5.out HBA.out) hb6); have HB6 := Aside0.mk (below_step (below_step HB5.out HBA.out) hb6); have HX6 := Aside0.mk (blk_below (blk_below HX5.out HBA.out) hb6); have HY6 := Aside0.mk (blk_below HY5.out hb6); clear ho6 hb6))
 go_wp2_with (go_at_call 10; (with_reducible refine (laws_eqInt64SS.calls k _ _ r _ _ r true _ (Kd.S_reads' HO6.out).2.2 (Kd.S_reads' HO6.out).2.1 (Kd.R_reads' HO46.out).2.2 (Kd.R_reads' HO46.out).2.1 HE1.out).mono ?_); rintro e w7 ⟨rfl, hd7⟩; have HB7 := Aside0.mk (below_step HB6.out hd7.below); have HO67 := Aside0.mk (Kd.S_below HO6.out hd7.below); have HO47 := Aside0.mk (Kd.R_below HO46.out hd7.below); have HO57 := Aside0.mk (Kd.R_below HO56.out hd7.below); have HX7 := Aside0.mk (blk_below HX6.out hd7.below); have HY7 := Aside0.mk (blk_below HY6.out hd7.below); have x70 := (blk_cell HX7.out 0).trans rfl; have x71 := (blk_cell HX7.out 1).trans rfl; have x72 := (blk_cell HX7.out 2).trans rfl; have y70 := (blk_cell HY7.out 0).trans rfl; have y71 := (blk_cell HY7.out 1).trans rfl; have y72 := (blk_cell HY7.out 2).trans rfl; clear hd7)
 go_region_held3 (fun w' => w'.cell? ⟨w.heap.size, 0, none⟩ = some (.slice A0_0 l0_0.length c0_0) ∧ w'.cell? ⟨w.heap.size, 1, none⟩ = some (.int .i64 a0_1) ∧ w'.cell? ⟨w.heap.size, 2, none⟩ = some (.bool a0_2) ∧ w'.cell? ⟨w5.heap.size, 0, none⟩ = some (.slice A5 x.length c5) ∧ w'.cell? ⟨w5.heap.size, 1, none⟩ = some (.int .i64 b1) ∧ w'.cell? ⟨w5.heap.size, 2, none⟩ = some (.bool b2))
  (first | go_keep | (go_split_ands; refine ⟨?_, ?_, ?_, ?_, ?_, ?_⟩ <;> exact pw_cell_below ‹Below _ _ _› (by assumption)) | (go_split_ands; exact pw_cell_below ‹Below _ _ _› (by assumption)))
  (first
   | (go_at_call 8; (with_reducible refine (laws_toPiece.calls k _ _ l0_0 _ _ x b1 b2 _ (Kd.C_below HR.out (by with_reducible repeat (first | exact HB7.out | apply below_drew1))) hc0_0 HX.out).mono ?_); rintro e w8 ⟨v8, rfl, ho8, hb8⟩; have HBR := Aside0.mk ((fun (W : World) (h : Below w7.heap.size w7 W) (g : Below W.heap.size W w8) => below_step h g) _ (by with_reducible repeat (first | exact Below.refl _ _ | apply below_drew1)) hb8); obtain ⟨A8, c8, e8⟩ := Kd.R_slice ho8; subst e8; have HO8 := Aside0.mk ho8; have HO58 := Aside0.mk (Kd.R_below HO57.out HBR.out))
   | (go_at_call 11; (with_reducible refine (laws_eqPiece.calls k _ _ x b1 b2 _ _ x b1 b2 true _ (Kd.C_below (Kd.R_reads' HO58.out).2.2 (by with_reducible repeat (first | exact Below.refl _ _ | apply below_drew1))) (Kd.R_reads' HO58.out).2.1 (Kd.C_below (Kd.R_reads' HO8.out).2.2 (by with_reducible repeat (first | exact Below.refl _ _ | apply below_drew1))) (Kd.R_reads' HO8.out).2.1 HE2.out).mono ?_); rintro e w9 ⟨rfl, hb9⟩))
 rename_i hHeld
 clear hHeld
 have HBS := Aside0.mk ((fun (W : World) (h : Below w7.heap.size w7 W) (g : Below W.heap.size W w9) => below_step h g) _ (by with_reducible repeat (first | exact HBR.out | apply below_drew1)) hb9)
 have HB9 := Aside0.mk (below_step HB7.out HBS.out)
 have HX9 := Aside0.mk (blk_below HX7.out HBS.out)
 have HY9 := Aside0.mk (blk_below HY7.out HBS.out)
 have HO49 := Aside0.mk (Kd.R_below HO47.out HBS.out)
 have HO59 := Aside0.mk (Kd.R_below HO57.out HBS.out)
 have HO69 := Aside0.mk (Kd.S_below HO67.out HBS.out)
 have y90 := (blk_cell HY9.out 0).trans rfl
 have y91 := (blk_cell HY9.out 1).trans rfl
 have y92 := (blk_cell HY9.out 2).trans rfl
 clear hb8 hb9 x70 x71 x72 y70 y71 y72
 have HELD := Aside0.mk (fun (V : World) (base : Nat) (ok : Nat → Prop) (hS : Kd.S (Kd.slice 2 kI) 38 V base ok (.slice A6 r.length c6) r') => (show Calls Tryz.prog 14 #[.slice A6 r.length c6, .int .i64 1] V fun e w' => e = .returned (.int .i64 q) ∧ Drawn0 V w' from by
  have h := laws_heldInt64SS.calls k A6 c6 r' 1 q V (Kd.S_reads' hS).2.2 (by have := (Kd.S_reads' hS).1; have := (Kd.S_reads' hS).2.1; omega) HHD.out
  rwa [← (Kd.S_reads' hS).1] at h))
 have hs4 := HB4.out.size
 have hs5 := HS5.out
 have hsA := HBA.out.size
 have hs6 := HS6.out
 have hsw := HB5.out.size
 have hsx := blk_lt HX4.out
 have hsw1 := HB1.out.size
 have hsw2 := HB2.out.size
 have hsw3 := HB3.out.size
 have hsy := blk_lt HY6.out
 go_wp2_with (first
  | (go_at_call 12; (with_reducible refine (laws_markPiece.calls k _ _ x b1 b2 1 k1 x' w _ HB9.out (Kd.R_lower HO59.out hs4) HK1.out).mono ?_); rintro e w10 ⟨rfl, hr10, hb10, hk10⟩; have HB10 := Aside0.mk hb10; have HX10 := Aside0.mk (blk_kept HX9.out hk10 (by omega)); have HO410 := Aside0.mk (Kd.R_step HO49.out (fun k ho hlt => hk10.2 k hlt (by omega))); have HO610 := Aside0.mk (Kd.S_step HO69.out (fun k ho hlt => hk10.2 k hlt (by omega))); clear hr10 hb10 hk10)
  | (go_at_call 10; (with_reducible refine (laws_eqInt64SS.calls k _ _ r _ _ r true _ (Kd.S_reads' HO610.out).2.2 (Kd.S_reads' HO610.out).2.1 (Kd.R_reads' HO410.out).2.2 (Kd.R_reads' HO410.out).2.1 HE1.out).mono ?_); rintro e w11 ⟨rfl, hd11⟩; have HB11 := Aside0.mk (below_step HB10.out hd11.below); have HO611 := Aside0.mk (Kd.S_below HO610.out hd11.below); have HO411 := Aside0.mk (Kd.R_below HO410.out hd11.below); have HX11 := Aside0.mk (blk_below HX10.out hd11.below); clear hd11)
  | (go_at_call 13; (with_reducible refine (markIS.calls k _ _ r 1 q r' w _ HB11.out (Kd.S_lower HO611.out (by omega)) HMK.out).mono ?_); rintro e w12 ⟨rfl, hr12, hb12, hk12⟩; have HB12 := Aside0.mk hb12; have HX12 := Aside0.mk (blk_kept HX11.out hk12 (by omega)); have HR12 := Aside0.mk hr12; have HO412 := Aside0.mk (Kd.R_step HO411.out (fun k ho hlt => hk12.2 k hlt (by omega))); clear hr12 hb12 hk12)
  | (go_at_call 14; (with_reducible refine (HELD.out _ _ _ HR12.out).mono ?_); rintro e w13 ⟨rfl, hd13⟩; have HB13 := Aside0.mk (below_step HB12.out hd13.below); have HX13 := Aside0.mk (blk_below HX12.out hd13.below); have x130 := (blk_cell HX13.out 0).trans rfl; have x131 := (blk_cell HX13.out 1).trans rfl; have x132 := (blk_cell HX13.out 2).trans rfl; have HR13 := Aside0.mk (Kd.S_below HR12.out hd13.below); have HO413 := Aside0.mk (Kd.R_below HO412.out hd13.below); clear hd13))
 go_wp2_with (first
  | (go_at_call 8; (with_reducible refine (laws_toPiece.calls k _ _ l0_0 _ _ x b1 b2 _ (Kd.C_below HR.out HB13.out) hc0_0 HX.out).mono ?_); rintro e w14 ⟨v14, rfl, ho14, hb14⟩; obtain ⟨A14, c14, e14⟩ := Kd.R_slice ho14; subst e14; have HO14 := Aside0.mk ho14; have HB14 := Aside0.mk (below_step HB13.out hb14); have HC14 := Aside0.mk hb14; clear ho14 hb14)
  | (go_at_call 9; (with_reducible refine (impl_SpotsOf.own k _ _ x b1 b2 a1 a2 c r _ (Kd.R_reads' HO14.out).2.2 (Kd.R_reads' HO14.out).2.1 HSI.out).mono ?_); rintro e w15 ⟨v15, rfl, ho15, hb15⟩; obtain ⟨A15, c15, e15⟩ := Kd.S_slice ho15; subst e15; have HO15 := Aside0.mk ho15; have HB15 := Aside0.mk (below_step HB14.out hb15); have HC15 := Aside0.mk (below_step HC14.out hb15); clear ho15 hb15)
  | (go_at_call 10; (with_reducible refine (laws_eqInt64SS.calls k _ _ r _ _ r true _ (Kd.S_reads' HO15.out).2.2 (Kd.S_reads' HO15.out).2.1 (Kd.R_reads' (Kd.R_below HO413.out HC15.out)).2.2 (Kd.R_reads' HO413.out).2.1 HE1.out).mono ?_); rintro e w16 ⟨rfl, hd16⟩; have HB16 := Aside0.mk (below_step HB15.out hd16.below); have HR16 := Aside0.mk (Kd.S_below HR13.out (below_step HC15.out hd16.below)); clear hd16)
  | (go_at_call 14; (with_reducible refine (HELD.out _ _ _ HR16.out).mono ?_); rintro e w17 ⟨rfl, hd17⟩; have HB17 := Aside0.mk (below_step HB16.out hd17.below)))
 go_ret
 exact ⟨rfl, HB17.out⟩
end Go.Proofs.YtbphiipcnjelbaaGreat.Q
