/- Written by a program of this session (wip/tools/pp.py) out of the translation, with the kit's printer. -/
import Derived.Test.YtbphiipcnjelbaaGreatQ0
import Derived.Test.YtbphiipcnjelbaaGreatQGspecl18Add
import Derived.Test.YtbphiipcnjelbaaGreatQGspecl25Spots
import Derived.Test.YtbphiipcnjelbaaGreatQGspecl25Cover
import Derived.Test.YtbphiipcnjelbaaGreatQ13
import Derived.Test.YtbphiipcnjelbaaGreatQGslicesCompactFuncint64int64
import Derived.Test.YtbphiipcnjelbaaGreatQGimplspots
namespace Go.Proofs.YtbphiipcnjelbaaGreat.Q
open Go.RowKit Go.Proofs.YtbphiipcnjelbaaGreatW.PrintWords Go.Proofs.YtbphiipcnjelbaaGreatW.PrintLast Go.Proofs.YtbphiipcnjelbaaGreatW.PrintMore
attribute [local go_sem] max2_int min2_int max_two min_two max_three min_three max_four min_four
set_option linter.unusedVariables false
set_option linter.unusedSimpArgs false
set_option maxRecDepth 100000 in
set_option maxHeartbeats 1600000 in
theorem impl_torusCover.own (k : Nat) (A0 : Option Addr) (c0 : Nat) (l0 : List S66) (a1 : Int) (a2 : Bool) (W H : Nat) (fs : List (List S66)) (R : List (List Int)) (w : World) (hr0 : Kd.C k66 w A0 l0.length l0) (hc0 : l0.length ≤ c0) (hf : impl_forms.f k l0 (if a2 = true then 8 else 4) = some fs) (hok : frmsOk fs) (hpos : 0 < fs.length) (hW : 1 ≤ W ∧ W ≤ 6) (hH : 1 ≤ H ∧ H ≤ 6)
  (hR : ∀ a, a ∈ R ↔ ∃ f ∈ fs, ∃ n, n < W * H ∧ okSp (f.map (torAt W H n)) ∧ a = sortI (f.map (torAt W H n))) (hP : R.Pairwise (fun x y => cmpL x y < 0)) :
  Calls Tryz.prog 38 #[.agg #[.slice A0 l0.length c0, .int .i64 a1, .bool a2], .int .i64 W, .int .i64 H] w fun e w' => ∃ v', e = .returned (.agg #[.int .i64 ((W * H : Nat) : Int), .int .i64 ((W * H : Nat) : Int), v']) ∧ Kd.S (Kd.slice 2 kI) 38 w' w.heap.size (fun _ => True) v' R ∧ Below w.heap.size w w' := by
 have hu1 := Tryz.underlying31
 have hu2 := Tryz.underlying45
 have HR := Aside0.mk hr0
 have HWH := Aside0.mk (wh_ok hW hH)
 have HF := Aside0.mk hf
 have HOK := Aside0.mk hok
 have HB0 := Aside0.mk (below_alloc (below_alloc (Below.refl w.heap.size w) (.cells #[.slice A0 l0.length c0, .int .i64 a1, .bool a2] 31)) (.cells #[.int .i64 0, .int .i64 0, .slice none 0 0] 45))
 have HM := Aside0.mk hR
 have HP := Aside0.mk hP
 have HBX := Aside0.mk (box_W w (.cells #[.slice A0 l0.length c0, .int .i64 a1, .bool a2] 31) (.cells #[.int .i64 0, .int .i64 0, .slice none 0 0] 45))
 clear hr0 hf hok hR hP
 go_enter Tryz.func38, Tryz.ntmps38
 go_wp2_with (go_at_call 29; (with_reducible refine (impl_spots.own k _ _ l0 _ _ W H fs R _ (Kd.C_below HR.out HB0.out) hc0 HF.out HOK.out hpos hW hH HM.out HP.out).mono ?_); rintro e w2 ⟨v2, rfl, ho2, hb2⟩; obtain ⟨A2, c2, e2⟩ := Kd.S_slice ho2; subst e2; have HO2 := Aside0.mk (srngV ho2); have HX2 := Aside0.mk (blk_below HBX.out hb2); have x0 := (blk_cell HX2.out 0).trans rfl; have x1 := (blk_cell HX2.out 1).trans rfl; have x2 := (blk_cell HX2.out 2).trans rfl; have z0 := blk_frozen HX2.out 0; have z1 := blk_frozen HX2.out 1; have z2 := blk_frozen HX2.out 2; have HB2 := Aside0.mk (below_step HB0.out hb2); clear ho2 hb2)
 refine bodyPost_ret (results_cell_row rfl _ _ (w.heap.size + 1) 45 #[.int .i64 (RowKit.wrap64 ((W : Int) * (H : Int))), .int .i64 (RowKit.wrap64 ((W : Int) * (H : Int))), .slice A2 R.length c2] (0, 0) _ rfl (put3_blk _ _ _ HX2.out) hu2 rfl rfl) rfl ?_
 refine ⟨_, by rw [HWH.out], Kd.S_lower (Kd.S_mono (Kd.S_step HO2.out (fun k hk _ => put3 _ _ _ _ _ k (by have h := hk.1; rw [size_alW, size_alW] at h; omega))) (fun _ _ => trivial)) HB0.out.size, put3_below HB2.out (by omega) _ _ _⟩
end Go.Proofs.YtbphiipcnjelbaaGreat.Q
