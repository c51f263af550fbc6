/- Written by a program of this session (wip/tools/pp.py) out of the translation, with the kit's printer. -/
import Derived.Test.YtbphiipcnjelbaaGreatQ0
import Derived.Test.YtbphiipcnjelbaaGreatQ2
import Derived.Test.YtbphiipcnjelbaaGreatQGlawseqPiece
import Derived.Test.YtbphiipcnjelbaaGreatQ3
import Derived.Test.YtbphiipcnjelbaaGreatQGspecl18Add
import Derived.Test.YtbphiipcnjelbaaGreatQGspecSpotsOf
import Derived.Test.YtbphiipcnjelbaaGreatQGspecl25Cover
import Derived.Test.YtbphiipcnjelbaaGreatQGspecTorusCover
import Derived.Test.YtbphiipcnjelbaaGreatQGimplSpotsOf
import Derived.Test.YtbphiipcnjelbaaGreatQGimplTorusCover
import Derived.Test.YtbphiipcnjelbaaGreatQ16
import Derived.Test.YtbphiipcnjelbaaGreatQGlawseqCover
import Derived.Test.YtbphiipcnjelbaaGreatQGlawsmarkInt64SS
import Derived.Test.YtbphiipcnjelbaaGreatQGlawsmarkCover
import Derived.Test.YtbphiipcnjelbaaGreatQ18
import Derived.Test.YtbphiipcnjelbaaGreatQGlawsheldCover
import Derived.Deep.RegionHeld3
namespace Go.Proofs.YtbphiipcnjelbaaGreat.Q
open Go.RowKit Go.Proofs.YtbphiipcnjelbaaGreatW.PrintWords Go.Proofs.YtbphiipcnjelbaaGreatW.PrintLast Go.Proofs.YtbphiipcnjelbaaGreatW.PrintMore
attribute [local go_sem] max2_int min2_int max_two min_two max_three min_three max_four min_four
set_option linter.unusedVariables false
set_option linter.unusedSimpArgs false
def CoverLaw (k : Nat) (l0 : List S70) (a1 : Int) (a2 : Bool) (wide high : Int) : Prop :=
 ∃ s, laws_szPiece.f l0 a1 a2 1048576 = some s ∧ (s < 0 ∨ (0 ≤ s ∧ ∃ (x : List S66) (b1 : Int) (b2 : Bool) (c : Int) (r : List (List Int)), laws_toPiece.f k l0 a1 a2 = some (x, b1, b2) ∧ SpotsR k x b1 b2 wide high c r ∧ SpotsI k x b1 b2 wide high c r ∧
  laws_eqInt64SS.f k r r = some true ∧ laws_eqPiece.f k x b1 b2 x b1 b2 = some true ∧ ∃ (k1 : Int) (x' : List S66), laws_markPiece.f k x b1 b2 1 = some (k1, x') ∧ 0 ≤ k1 ∧ ∃ (q : Int) (r' : List (List Int)), markIS k r 1 = some (q, r') ∧ laws_heldInt64SS.f k r' 1 = some q ∧ 0 ≤ q))
open Classical in
noncomputable def laws_FnExactTorusCover.f (k : Nat) (l0 : List S70) (a1 : Int) (a2 : Bool) (wide high : Int) : Option Bool := if CoverLaw k l0 a1 a2 wide high then some true else none
set_option maxRecDepth 100000 in
set_option maxHeartbeats 8000000 in
theorem laws_FnExactTorusCover.calls (k : Nat) (A0_0 : Option Addr) (c0_0 : Nat) (l0_0 : List S70) (a0_1 : Int) (a0_2 : Bool) (a1 a2 : Int) (w : World) (hr0_0 : Kd.C k70 w A0_0 l0_0.length l0_0) (hc0_0 : l0_0.length ≤ c0_0) (h : laws_FnExactTorusCover.f k l0_0 a0_1 a0_2 a1 a2 = some true) :
  Calls Tryz.prog 5 #[.agg #[.slice A0_0 l0_0.length c0_0, .int .i64 a0_1, .bool a0_2], .int .i64 a1, .int .i64 a2] w fun e w' => e = .returned (.bool true) ∧ Below w.heap.size w w' := by
 have hu1 := Tryz.underlying31
 have hu2 := Tryz.underlying24
 have hu3 := Tryz.underlying45
 unfold laws_FnExactTorusCover.f at h
 by_cases hl : CoverLaw k l0_0 a0_1 a0_2 a1 a2
 case neg => rw [if_neg hl] at h; cases h
 clear h
 have HR := Aside0.mk hr0_0
 have HB1 := Aside0.mk (below_alloc (Below.refl w.heap.size w) (.cells #[.slice A0_0 l0_0.length c0_0, .int .i64 a0_1, .bool a0_2] 24))
 have HBOX := Aside0.mk (heap_alloc_new w (.cells #[.slice A0_0 l0_0.length c0_0, .int .i64 a0_1, .bool a0_2] 24 (0, 0)))
 clear hr0_0
 obtain ⟨s, hs, hl⟩ := hl
 have HSZ := Aside0.mk hs
 clear hs
 rcases hl with hneg | ⟨hs0, x, b1, b2, c, r, hx, hR, hI, he1, he2, k1, x', hk1, hk10, q, r', hm, hh, hq0⟩
 ·have hd : decide (s < 0) = true := decide_eq_true hneg
  clear hneg
  go_enter Tryz.func5, Tryz.ntmps5
  go_wp2_with (go_at_call 6; (with_reducible refine (laws_szPiece.calls _ _ l0_0 _ _ 1048576 s _ (Kd.C_below HR.out HB1.out) hc0_0 HSZ.out).mono ?_); rintro e w2 ⟨rfl, hb2⟩)
  go_ret
  exact ⟨rfl, below_step HB1.out hb2⟩
 obtain ⟨n, hn⟩ : ∃ n : Int, n = if c = 0 then a1 * a2 else 0 := ⟨_, rfl⟩
 have HN := Aside0.mk hn
 have HX := Aside0.mk hx
 have HSR := Aside0.mk hR
 have HSI := Aside0.mk hI
 have HE1 := Aside0.mk he1
 have HE2 := Aside0.mk he2
 have HK1 := Aside0.mk hk1
 have HMK := Aside0.mk hm
 have HQ0 := Aside0.mk hq0
 have HHD := Aside0.mk hh
 have hd : decide (s < 0) = false := decide_eq_false (by omega)
 have hk1d : decide (k1 < 0) = false := decide_eq_false (by omega)
 have hqd : decide (q < 0) = false := decide_eq_false (by omega)
 have hqq : (q != q) = false := by simp
 have hcc : (c != c) = false := by simp
 clear hx hR hI he1 he2 hk1 hm hh hs0 hk10 hq0 hn
 go_enter Tryz.func5, Tryz.ntmps5
 go_wp2_with (first
  | (go_at_call 6; (with_reducible refine (laws_szPiece.calls _ _ l0_0 _ _ 1048576 s _ (Kd.C_below HR.out HB1.out) hc0_0 HSZ.out).mono ?_); rintro e w2 ⟨rfl, hb2⟩; have HB2 := Aside0.mk (below_step HB1.out hb2); have HX2 := Aside0.mk (blk_below HBOX.out hb2); have x20 := (blk_cell HX2.out 0).trans rfl; have x21 := (blk_cell HX2.out 1).trans rfl; have x22 := (blk_cell HX2.out 2).trans rfl; clear hb2)
  | (go_at_call 8; (with_reducible refine (laws_toPiece.calls k _ _ l0_0 _ _ x b1 b2 _ (Kd.C_below HR.out HB2.out) hc0_0 HX.out).mono ?_); rintro e w3 ⟨v3, rfl, ho3, hb3⟩; obtain ⟨A3, c3, e3⟩ := Kd.R_slice ho3; subst e3; have HO3 := Aside0.mk ho3; have HB3 := Aside0.mk (below_step HB2.out hb3); have HX3 := Aside0.mk (blk_below HX2.out hb3); clear ho3 hb3; clear x20 x21 x22)
  | (go_at_call 19; (with_reducible refine (spec_TorusCover.own k _ _ x b1 b2 a1 a2 c n r _ (Kd.R_reads' HO3.out).2.2 (Kd.R_reads' HO3.out).2.1 HSR.out HN.out).mono ?_); rintro e w4 ⟨v4, rfl, ho4, hb4⟩; obtain ⟨A4, c4, e4⟩ := Kd.R_slice ho4; subst e4; have hba := below_alloc (Below.refl w4.heap.size w4) (.cells #[.int .i64 n, .int .i64 n, .slice A4 r.length c4] 45); have HO4 := Aside0.mk (Kd.R_below (rrngV ho4) hba); have HB4 := Aside0.mk (below_step (below_step HB3.out hb4) hba); have HX4 := Aside0.mk (blk_below (blk_below HX3.out hb4) hba); have HV4 := Aside0.mk (heap_alloc_new w4 (.cells #[.int .i64 n, .int .i64 n, .slice A4 r.length c4] 45 (0, 0))); have x40 := (blk_cell HX4.out 0).trans rfl; have x41 := (blk_cell HX4.out 1).trans rfl; have x42 := (blk_cell HX4.out 2).trans rfl; clear ho4 hb4 hba))
 go_wp2_with (first
  | (go_at_call 8; (with_reducible refine (laws_toPiece.calls k _ _ l0_0 _ _ x b1 b2 _ (Kd.C_below HR.out HB4.out) hc0_0 HX.out).mono ?_); rintro e w5 ⟨v5, rfl, ho5, hb5⟩; obtain ⟨A5, c5, e5⟩ := Kd.R_slice ho5; subst e5; have HO5 := Aside0.mk (rrngV ho5); have HS5 := Aside0.mk hb5.size; have HO45 := Aside0.mk (Kd.R_below HO4.out hb5); have HB5 := Aside0.mk (below_step HB4.out hb5); have HX5 := Aside0.mk (blk_below HX4.out hb5); have HV5 := Aside0.mk (blk_below HV4.out hb5); have HBA := Aside0.mk (below_alloc (Below.refl w5.heap.size w5) (.cells #[.slice A5 x.length c5, .int .i64 b1, .bool b2] 31)); have HY5 := Aside0.mk (heap_alloc_new w5 (.cells #[.slice A5 x.length c5, .int .i64 b1, .bool b2] 31 (0, 0))); clear ho5 hb5; clear x40 x41 x42)
  | (go_at_call 20; (with_reducible refine (impl_TorusCover.own k _ _ x b1 b2 a1 a2 c n r _ (Kd.R_reads' (Kd.R_below HO5.out HBA.out)).2.2 (Kd.R_reads' HO5.out).2.1 HSI.out HN.out).mono ?_); rintro e w6 ⟨v6, rfl, ho6, hb6⟩; obtain ⟨A6, c6, e6⟩ := Kd.S_slice ho6; subst e6; have hbg := below_alloc (Below.refl w6.heap.size w6) (.cells #[.int .i64 n, .int .i64 n, .slice A6 r.length c6] 45); have HO6 := Aside0.mk (Kd.S_below (srngV ho6) hbg); have HS6 := Aside0.mk hb6.size; have HO46 := Aside0.mk (Kd.R_below (Kd.R_below (Kd.R_below HO45.out HBA.out) hb6) hbg); have HO56 := Aside0.mk (Kd.R_below (Kd.R_below (Kd.R_below HO5.out HBA.out) hb6) hbg); have HB6 := Aside0.mk (below_step (below_step (below_step HB5.out HBA.out) hb6) hbg); have HX6 := Aside0.mk (blk_below (blk_below (blk_below HX5.out HBA.out) hb6) hbg); have HV6 := Aside0.mk (blk_below (blk_below (blk_below HV5.out HBA.out) hb6) hbg); have HY6 := Aside0.mk (blk_below (blk_below HY5.out hb6) hbg); have HG6 := Aside0.mk (heap_alloc_new w6 (.cells #[.int .i64 n, .int .i64 n, .slice A6 r.length c6] 45 (0, 0))); have g60 := (blk_cell HG6.out 0).trans rfl; have g61 := (blk_cell HG6.out 1).trans rfl; have g62 := (blk_cell HG6.out 2).trans rfl; have v60 := (blk_cell HV6.out 0).trans rfl; have v61 := (blk_cell HV6.out 1).trans rfl; have v62 := (blk_cell HV6.out 2).trans rfl; clear ho6 hb6 hbg))
 go_wp2_with (go_at_call 21; (with_reducible refine (eqV.calls k n _ _ r _ _ _ (Kd.S_reads' HO6.out).2.2 (Kd.S_reads' HO6.out).2.1 (Kd.R_reads' HO46.out).2.2 (Kd.R_reads' HO46.out).2.1 HE1.out).mono ?_); rintro e w7 ⟨rfl, hd⟩; have HB7 := Aside0.mk (below_step HB6.out hd); have HO67 := Aside0.mk (Kd.S_below HO6.out hd); have HO47 := Aside0.mk (Kd.R_below HO46.out hd); have HO57 := Aside0.mk (Kd.R_below HO56.out hd); have HX7 := Aside0.mk (blk_below HX6.out hd); have HV7 := Aside0.mk (blk_below HV6.out hd); have HY7 := Aside0.mk (blk_below HY6.out hd); have HG7 := Aside0.mk (blk_below HG6.out hd); have x70 := (blk_cell HX7.out 0).trans rfl; have x71 := (blk_cell HX7.out 1).trans rfl; have x72 := (blk_cell HX7.out 2).trans rfl; have y70 := (blk_cell HY7.out 0).trans rfl; have y71 := (blk_cell HY7.out 1).trans rfl; have y72 := (blk_cell HY7.out 2).trans rfl; clear hd; clear g60 g61 g62 v60 v61 v62)
 go_region_held3 (fun w' => w'.cell? ⟨w.heap.size, 0, none⟩ = some (.slice A0_0 l0_0.length c0_0) ∧ w'.cell? ⟨w.heap.size, 1, none⟩ = some (.int .i64 a0_1) ∧ w'.cell? ⟨w.heap.size, 2, none⟩ = some (.bool a0_2) ∧ w'.cell? ⟨w5.heap.size, 0, none⟩ = some (.slice A5 x.length c5) ∧ w'.cell? ⟨w5.heap.size, 1, none⟩ = some (.int .i64 b1) ∧ w'.cell? ⟨w5.heap.size, 2, none⟩ = some (.bool b2))
  (first | go_keep | (go_split_ands; refine ⟨?_, ?_, ?_, ?_, ?_, ?_⟩ <;> exact pw_cell_below ‹Below _ _ _› (by assumption)) | (go_split_ands; exact pw_cell_below ‹Below _ _ _› (by assumption)))
  (first
   | (go_at_call 8; (with_reducible refine (laws_toPiece.calls k _ _ l0_0 _ _ x b1 b2 _ (Kd.C_below HR.out (by with_reducible repeat (first | exact HB7.out | apply below_drew1))) hc0_0 HX.out).mono ?_); rintro e w8 ⟨v8, rfl, ho8, hb8⟩; have HBR := Aside0.mk ((fun (W : World) (h : Below w7.heap.size w7 W) (g : Below W.heap.size W w8) => below_step h g) _ (by with_reducible repeat (first | exact Below.refl _ _ | apply below_drew1)) hb8); obtain ⟨A8, c8, e8⟩ := Kd.R_slice ho8; subst e8; have HO8 := Aside0.mk ho8; have HO58 := Aside0.mk (Kd.R_below HO57.out HBR.out))
   | (go_at_call 11; (with_reducible refine (laws_eqPiece.calls k _ _ x b1 b2 _ _ x b1 b2 true _ (Kd.C_below (Kd.R_reads' HO58.out).2.2 (by with_reducible repeat (first | exact Below.refl _ _ | apply below_drew1))) (Kd.R_reads' HO58.out).2.1 (Kd.C_below (Kd.R_reads' HO8.out).2.2 (by with_reducible repeat (first | exact Below.refl _ _ | apply below_drew1))) (Kd.R_reads' HO8.out).2.1 HE2.out).mono ?_); rintro e w9 ⟨rfl, hb9⟩))
 rename_i hHeld
 clear hHeld
 have HBS := Aside0.mk ((fun (W : World) (h : Below w7.heap.size w7 W) (g : Below W.heap.size W w9) => below_step h g) _ (by with_reducible repeat (first | exact HBR.out | apply below_drew1)) hb9)
 have HB9 := Aside0.mk (below_step HB7.out HBS.out)
 have HX9 := Aside0.mk (blk_below HX7.out HBS.out)
 have HY9 := Aside0.mk (blk_below HY7.out HBS.out)
 have HV9 := Aside0.mk (blk_below HV7.out HBS.out)
 have HG9 := Aside0.mk (blk_below HG7.out HBS.out)
 have HO49 := Aside0.mk (Kd.R_below HO47.out HBS.out)
 have HO59 := Aside0.mk (Kd.R_below HO57.out HBS.out)
 have HO69 := Aside0.mk (Kd.S_below HO67.out HBS.out)
 have y90 := (blk_cell HY9.out 0).trans rfl
 have y91 := (blk_cell HY9.out 1).trans rfl
 have y92 := (blk_cell HY9.out 2).trans rfl
 clear hb8 hb9 x70 x71 x72 y70 y71 y72
 have HELD := Aside0.mk (fun (V : World) (base : Nat) (ok : Nat → Prop) (hS : Kd.S (Kd.slice 2 kI) 38 V base ok (.slice A6 r.length c6) r') => (show Calls Tryz.prog 23 #[.agg #[.int .i64 n, .int .i64 n, .slice A6 r.length c6], .int .i64 1] V fun e w' => e = .returned (.int .i64 q) ∧ Below V.heap.size V w' from by
  have h := heldV.calls k n A6 c6 r' 1 q V (Kd.S_reads' hS).2.2 (by have := (Kd.S_reads' hS).1; have := (Kd.S_reads' hS).2.1; omega) HHD.out HQ0.out
  rwa [← (Kd.S_reads' hS).1] at h))
 have hs4 := HB4.out.size
 have hsv := blk_lt HV4.out
 have hs5 := HS5.out
 have hsA := HBA.out.size
 have hs6 := HS6.out
 have hsx := blk_lt HX4.out
 go_wp2_with (first
  | (go_at_call 12; (with_reducible refine (laws_markPiece.calls k _ _ x b1 b2 1 k1 x' w _ HB9.out (Kd.R_lower HO59.out hs4) HK1.out).mono ?_); rintro e w10 ⟨rfl, hr10, hb10, hk10⟩; have HB10 := Aside0.mk hb10; have HX10 := Aside0.mk (blk_kept HX9.out hk10 (by omega)); have HV10 := Aside0.mk (blk_kept HV9.out hk10 (by omega)); have HG10 := Aside0.mk (blk_kept HG9.out hk10 (by omega)); have HO410 := Aside0.mk (Kd.R_step HO49.out (fun k ho hlt => hk10.2 k hlt (by omega))); have HO610 := Aside0.mk (Kd.S_step HO69.out (fun k ho hlt => hk10.2 k hlt (by omega))); have g100 := (blk_cell HG10.out 0).trans rfl; have g101 := (blk_cell HG10.out 1).trans rfl; have g102 := (blk_cell HG10.out 2).trans rfl; have v100 := (blk_cell HV10.out 0).trans rfl; have v101 := (blk_cell HV10.out 1).trans rfl; have v102 := (blk_cell HV10.out 2).trans rfl; clear hr10 hb10 hk10; clear y90 y91 y92)
  | (go_at_call 21; (with_reducible refine (eqV.calls k n _ _ r _ _ _ (Kd.S_reads' HO610.out).2.2 (Kd.S_reads' HO610.out).2.1 (Kd.R_reads' HO410.out).2.2 (Kd.R_reads' HO410.out).2.1 HE1.out).mono ?_); rintro e w11 ⟨rfl, hd⟩; have HB11 := Aside0.mk (below_step HB10.out hd); have HO611 := Aside0.mk (Kd.S_below HO610.out hd); have HO411 := Aside0.mk (Kd.R_below HO410.out hd); have HX11 := Aside0.mk (blk_below HX10.out hd); have HV11 := Aside0.mk (blk_below HV10.out hd); have HG11 := Aside0.mk (blk_below HG10.out hd); have g110 := (blk_cell HG11.out 0).trans rfl; have g111 := (blk_cell HG11.out 1).trans rfl; have g112 := (blk_cell HG11.out 2).trans rfl; clear hd; clear g100 g101 g102 v100 v101 v102)
  | (go_at_call 22; (with_reducible refine (markV.calls k _ n _ r 1 q r' w _ HB11.out (Kd.S_lower HO611.out (by omega)) HMK.out).mono ?_); rintro e w12 ⟨rfl, hr12, hb12, hk12⟩; have HB12 := Aside0.mk hb12; have HX12 := Aside0.mk (blk_kept HX11.out hk12 (by omega)); have HV12 := Aside0.mk (blk_kept HV11.out hk12 (by omega)); have HG12 := Aside0.mk (blk_kept HG11.out hk12 (by omega)); have HR12 := Aside0.mk hr12; have HO412 := Aside0.mk (Kd.R_step HO411.out (fun k ho hlt => hk12.2 k hlt (by omega))); have g120 := (blk_cell HG12.out 0).trans rfl; have g121 := (blk_cell HG12.out 1).trans rfl; have g122 := (blk_cell HG12.out 2).trans rfl; clear hr12 hb12 hk12; clear g110 g111 g112)
  | (go_at_call 23; (with_reducible refine (HELD.out _ _ _ HR12.out).mono ?_); rintro e w13 ⟨rfl, hd⟩; have HB13 := Aside0.mk (below_step HB12.out hd); have HX13 := Aside0.mk (blk_below HX12.out hd); have HV13 := Aside0.mk (blk_below HV12.out hd); have HG13 := Aside0.mk (blk_below HG12.out hd); have x130 := (blk_cell HX13.out 0).trans rfl; have x131 := (blk_cell HX13.out 1).trans rfl; have x132 := (blk_cell HX13.out 2).trans rfl; have HR13 := Aside0.mk (Kd.S_below HR12.out hd); have HO413 := Aside0.mk (Kd.R_below HO412.out hd); clear hd; clear g120 g121 g122))
 go_wp2_with (first
  | (go_at_call 8; (with_reducible refine (laws_toPiece.calls k _ _ l0_0 _ _ x b1 b2 _ (Kd.C_below HR.out HB13.out) hc0_0 HX.out).mono ?_); rintro e w14 ⟨v14, rfl, ho14, hb14⟩; obtain ⟨A14, c14, e14⟩ := Kd.R_slice ho14; subst e14; have HO14 := Aside0.mk ho14; have HB14 := Aside0.mk (below_step HB13.out hb14); have HC14 := Aside0.mk hb14; clear ho14 hb14)
  | (go_at_call 20; (with_reducible refine (impl_TorusCover.own k _ _ x b1 b2 a1 a2 c n r _ (Kd.R_reads' HO14.out).2.2 (Kd.R_reads' HO14.out).2.1 HSI.out HN.out).mono ?_); rintro e w15 ⟨v15, rfl, ho15, hb15⟩; obtain ⟨A15, c15, e15⟩ := Kd.S_slice ho15; subst e15; have hbh := below_alloc (Below.refl w15.heap.size w15) (.cells #[.int .i64 n, .int .i64 n, .slice A15 r.length c15] 45); have HO15 := Aside0.mk (Kd.S_below ho15 hbh); have HB15 := Aside0.mk (below_step (below_step HB14.out hb15) hbh); have HC15 := Aside0.mk (below_step (below_step HC14.out hb15) hbh); have HH15 := Aside0.mk (heap_alloc_new w15 (.cells #[.int .i64 n, .int .i64 n, .slice A15 r.length c15] 45 (0, 0))); have HV15 := Aside0.mk (blk_below HV13.out (below_step (below_step HC14.out hb15) hbh)); have HG15 := Aside0.mk (blk_below HG13.out (below_step (below_step HC14.out hb15) hbh)); have h150 := (blk_cell HH15.out 0).trans rfl; have h151 := (blk_cell HH15.out 1).trans rfl; have h152 := (blk_cell HH15.out 2).trans rfl; have v150 := (blk_cell HV15.out 0).trans rfl; have v151 := (blk_cell HV15.out 1).trans rfl; have v152 := (blk_cell HV15.out 2).trans rfl; clear ho15 hb15 hbh; clear x130 x131 x132)
  | (go_at_call 21; (with_reducible refine (eqV.calls k n _ _ r _ _ _ (Kd.S_reads' HO15.out).2.2 (Kd.S_reads' HO15.out).2.1 (Kd.R_reads' (Kd.R_below HO413.out HC15.out)).2.2 (Kd.R_reads' (Kd.R_below HO413.out HC15.out)).2.1 HE1.out).mono ?_); rintro e w16 ⟨rfl, hd⟩; have HB16 := Aside0.mk (below_step HB15.out hd); have HR16 := Aside0.mk (Kd.S_below HR13.out (below_step HC15.out hd)); have HG16 := Aside0.mk (blk_below HG15.out hd); have g160 := (blk_cell HG16.out 0).trans rfl; have g161 := (blk_cell HG16.out 1).trans rfl; have g162 := (blk_cell HG16.out 2).trans rfl; clear hd; clear h150 h151 h152 v150 v151 v152)
  | (go_at_call 23; (with_reducible refine (HELD.out _ _ _ HR16.out).mono ?_); rintro e w17 ⟨rfl, hd⟩; have HB17 := Aside0.mk (below_step HB16.out hd)))
 go_ret
 exact ⟨rfl, HB17.out⟩
end Go.Proofs.YtbphiipcnjelbaaGreat.Q
