/- Written by a program of this session (wip/tools/pp.py) out of the translation, with the kit's printer. -/
import Derived.Test.YtbphiipcnjelbaaGreatQ0
import Derived.Test.YtbphiipcnjelbaaGreatQGspecl18Add
import Derived.Test.YtbphiipcnjelbaaGreatQGspecl25Cover
import Derived.Test.YtbphiipcnjelbaaGreatQ10
import Derived.Test.YtbphiipcnjelbaaGreatQGimplSpotsOf
import Derived.Test.YtbphiipcnjelbaaGreatQGimpltorusCover
namespace Go.Proofs.YtbphiipcnjelbaaGreat.Q
open Go.RowKit Go.Proofs.YtbphiipcnjelbaaGreatW.PrintWords Go.Proofs.YtbphiipcnjelbaaGreatW.PrintLast Go.Proofs.YtbphiipcnjelbaaGreatW.PrintMore
attribute [local go_sem] max2_int min2_int max_two min_two max_three min_three max_four min_four
set_option linter.unusedVariables false
set_option linter.unusedSimpArgs false
set_option maxRecDepth 100000 in
set_option maxHeartbeats 1600000 in
theorem impl_TorusCover.own (k : Nat) (A0 : Option Addr) (c0 : Nat) (l0 : List S66) (a1 : Int) (a2 : Bool) (wide high c n : Int) (r : List (List Int)) (w : World) (hr0 : Kd.C k66 w A0 l0.length l0) (hc0 : l0.length ≤ c0) (h : SpotsI k l0 a1 a2 wide high c r) (hn : n = if c = 0 then wide * high else 0) :
  Calls Tryz.prog 20 #[.agg #[.slice A0 l0.length c0, .int .i64 a1, .bool a2], .int .i64 wide, .int .i64 high] w fun e w' => ∃ v', e = .returned (.tuple #[.agg #[.int .i64 n, .int .i64 n, v'], .int .i64 c]) ∧ Kd.S (Kd.slice 2 kI) 38 w' w.heap.size (fun _ => True) v' r ∧ Below w.heap.size w w' := by
 have hu1 := Tryz.underlying31
 have hu2 := Tryz.underlying45
 have HR := Aside0.mk hr0
 obtain ⟨hcd, hcs⟩ := h
 have HCD := Aside0.mk hcd
 have HB0 := Aside0.mk (below_alloc (below_alloc (Below.refl w.heap.size w) (.cells #[.slice A0 l0.length c0, .int .i64 a1, .bool a2] 31)) (.cells #[.int .i64 0, .int .i64 0, .slice none 0 0] 45))
 have HBX := Aside0.mk (blk_below (heap_alloc_new w (.cells #[.slice A0 l0.length c0, .int .i64 a1, .bool a2] 31 (0, 0))) (below_alloc (Below.refl _ _) (.cells #[.int .i64 0, .int .i64 0, .slice none 0 0] 45)))
 have HBY := Aside0.mk (box_W w (.cells #[.slice A0 l0.length c0, .int .i64 a1, .bool a2] 31) (.cells #[.int .i64 0, .int .i64 0, .slice none 0 0] 45))
 clear hr0 hcd
 rcases hcs with ⟨hne, rfl⟩ | ⟨rfl, W, H, fs, rfl, rfl, hf, hok, hpos, hW, hH, hm, hp⟩
 ·have hn1 : (c != 0) = true := by simpa using hne
  have hn2 : (c == 0) = false := by simpa using hne
  rw [if_neg hne] at hn
  clear hne
  go_enter Tryz.func20, Tryz.ntmps20
  go_wp2_with (go_at_call 28; (with_reducible refine (impl_torusCode.calls k _ _ l0 _ _ _ _ c _ (Kd.C_below HR.out HB0.out) hc0 HCD.out).mono ?_); rintro e w1 ⟨rfl, hb1⟩; have HB1 := Aside0.mk (below_step HB0.out hb1); have HY1 := Aside0.mk (blk_below HBY.out hb1); have y0 := (blk_cell HY1.out 0).trans rfl; have y1 := (blk_cell HY1.out 1).trans rfl; have y2 := (blk_cell HY1.out 2).trans rfl; have q0 := blk_frozen HY1.out 0; have q1 := blk_frozen HY1.out 1; have q2 := blk_frozen HY1.out 2;  clear hb1)
  refine bodyPost_ret (results_ct rfl _ _ (w.heap.size + 1) 45 #[.int .i64 0, .int .i64 0, .slice none 0 0] (0, 0) _ rfl (put3_blk _ _ _ HY1.out) hu2 rfl rfl) rfl ?_
  exact ⟨_, by rw [hn]; rfl, Kd.S_nil _ _ _ _ _, put3_below HB1.out (by omega) _ _ _⟩
 ·have HF := Aside0.mk hf
  have HM := Aside0.mk hm
  have HP := Aside0.mk hp
  have HOK := Aside0.mk hok
  clear hf hm hp hok
  go_enter Tryz.func20, Tryz.ntmps20
  go_wp2_with (first
   | (go_at_call 28; (with_reducible refine (impl_torusCode.calls k _ _ l0 _ _ _ _ 0 _ (Kd.C_below HR.out HB0.out) hc0 HCD.out).mono ?_); rintro e w1 ⟨rfl, hb1⟩; have HB1 := Aside0.mk (below_step HB0.out hb1); have HY1 := Aside0.mk (blk_below HBY.out hb1); have y0 := (blk_cell HY1.out 0).trans rfl; have y1 := (blk_cell HY1.out 1).trans rfl; have y2 := (blk_cell HY1.out 2).trans rfl; have q0 := blk_frozen HY1.out 0; have q1 := blk_frozen HY1.out 1; have q2 := blk_frozen HY1.out 2;  have x0 := (blk_cell (blk_below HBX.out hb1) 0).trans rfl; have x1 := (blk_cell (blk_below HBX.out hb1) 1).trans rfl; have x2 := (blk_cell (blk_below HBX.out hb1) 2).trans rfl; clear hb1)
   | (go_at_call 38; (with_reducible refine (impl_torusCover.own k _ _ l0 _ _ W H fs r _ (Kd.C_below HR.out HB1.out) hc0 HF.out HOK.out hpos hW hH HM.out HP.out).mono ?_); rintro e w2 ⟨v2, rfl, ho2, hb2⟩; obtain ⟨A2, c2, e2⟩ := Kd.S_slice ho2; subst e2; have HO2 := Aside0.mk (srngV ho2); have HB2 := Aside0.mk (below_step HB1.out hb2); have HS1 := Aside0.mk (blk_lt HY1.out); have HY2 := Aside0.mk (blk_below HY1.out hb2); clear ho2 hb2 y0 y1 y2 q0 q1 q2; have y0 := (blk_cell HY2.out 0).trans rfl; have y1 := (blk_cell HY2.out 1).trans rfl; have y2 := (blk_cell HY2.out 2).trans rfl; have q0 := blk_frozen HY2.out 0; have q1 := blk_frozen HY2.out 1; have q2 := blk_frozen HY2.out 2))
  refine bodyPost_ret (results_ct rfl _ _ (w.heap.size + 1) 45 #[.int .i64 ((W * H : Nat) : Int), .int .i64 ((W * H : Nat) : Int), .slice A2 r.length c2] (0, 0) _ rfl (put3_blk _ _ _ HY2.out) hu2 rfl rfl) rfl ?_
  exact ⟨_, by rw [hn]; simp, Kd.S_lower (Kd.S_mono (Kd.S_step HO2.out (fun k hk _ => put3 _ _ _ _ _ k (by have h := hk.1; have h2 := HS1.out; omega))) (fun _ _ => trivial)) HB1.out.size, put3_below HB2.out (by omega) _ _ _⟩
end Go.Proofs.YtbphiipcnjelbaaGreat.Q
