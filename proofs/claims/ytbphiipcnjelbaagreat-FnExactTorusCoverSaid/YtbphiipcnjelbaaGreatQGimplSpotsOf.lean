/- Written by a program of this session (wip/tools/pp.py) out of the translation, with the kit's printer. -/
import Derived.Test.YtbphiipcnjelbaaGreatQ0
import Derived.Test.YtbphiipcnjelbaaGreatQGspecl18Add
import Derived.Test.YtbphiipcnjelbaaGreatQGspecl25Spots
import Derived.Test.YtbphiipcnjelbaaGreatQ10
import Derived.Test.YtbphiipcnjelbaaGreatQ13
import Derived.Test.YtbphiipcnjelbaaGreatQGslicesCompactFuncint64int64
import Derived.Test.YtbphiipcnjelbaaGreatQGimplspots
namespace Go.Proofs.YtbphiipcnjelbaaGreat.Q
open Go.RowKit Go.Proofs.YtbphiipcnjelbaaGreatW.PrintWords Go.Proofs.YtbphiipcnjelbaaGreatW.PrintLast Go.Proofs.YtbphiipcnjelbaaGreatW.PrintMore
attribute [local go_sem] max2_int min2_int max_two min_two max_three min_three max_four min_four
set_option linter.unusedVariables false
set_option linter.unusedSimpArgs false
def SpotsI (k : Nat) (l0 : List S66) (a1 : Int) (a2 : Bool) (wide high : Int) (c : Int) (r : List (List Int)) : Prop :=
 impl_torusCode.f k l0 a1 a2 wide high = some c ∧ ((c ≠ 0 ∧ r = []) ∨ (c = 0 ∧ ∃ (W H : Nat) (fs : List (List S66)), wide = (W : Int) ∧ high = (H : Int) ∧ impl_forms.f k l0 (if a2 = true then 8 else 4) = some fs ∧ frmsOk fs ∧ 0 < fs.length ∧ (1 ≤ W ∧ W ≤ 6) ∧ (1 ≤ H ∧ H ≤ 6) ∧
  (∀ a, a ∈ r ↔ ∃ f ∈ fs, ∃ n, n < W * H ∧ okSp (f.map (torAt W H n)) ∧ a = sortI (f.map (torAt W H n))) ∧ r.Pairwise (fun x y => cmpL x y < 0)))
set_option maxHeartbeats 1600000 in
theorem impl_SpotsOf.own (k : Nat) (A0 : Option Addr) (c0 : Nat) (l0 : List S66) (a1 : Int) (a2 : Bool) (wide high c : Int) (r : List (List Int)) (w : World) (hr0 : Kd.C k66 w A0 l0.length l0) (hc0 : l0.length ≤ c0) (h : SpotsI k l0 a1 a2 wide high c r) :
  Calls Tryz.prog 9 #[.agg #[.slice A0 l0.length c0, .int .i64 a1, .bool a2], .int .i64 wide, .int .i64 high] w fun e w' => ∃ v', e = .returned (.tuple #[v', .int .i64 c]) ∧ Kd.S (Kd.slice 2 kI) 38 w' w.heap.size (fun _ => True) v' r ∧ Below w.heap.size w w' := by
 have hu1 := Tryz.underlying31
 have HR := Aside0.mk hr0
 obtain ⟨hcd, hcs⟩ := h
 have HCD := Aside0.mk hcd
 have HB0 := Aside0.mk (below_alloc (Below.refl w.heap.size w) (.cells #[.slice A0 l0.length c0, .int .i64 a1, .bool a2] 31))
 have HBX := Aside0.mk (heap_alloc_new w (.cells #[.slice A0 l0.length c0, .int .i64 a1, .bool a2] 31 (0, 0)))
 clear hr0 hcd
 rcases hcs with ⟨hne, rfl⟩ | ⟨rfl, W, H, fs, rfl, rfl, hf, hok, hpos, hW, hH, hm, hp⟩
 ·have hn1 : (c != 0) = true := by simpa using hne
  have hn2 : (c == 0) = false := by simpa using hne
  clear hne
  go_enter Tryz.func9, Tryz.ntmps9
  go_wp2_with (go_at_call 28; (with_reducible refine (impl_torusCode.calls k _ _ l0 _ _ _ _ c _ (Kd.C_below HR.out HB0.out) hc0 HCD.out).mono ?_); rintro e w1 ⟨rfl, hb1⟩; have HB1 := Aside0.mk (below_step HB0.out hb1); clear hb1)
  go_ret2
  exact ⟨_, rfl, Kd.S_nil _ _ _ _ _, HB1.out⟩
 ·have HF := Aside0.mk hf
  have HM := Aside0.mk hm
  have HP := Aside0.mk hp
  have HOK := Aside0.mk hok
  clear hf hm hp hok
  go_enter Tryz.func9, Tryz.ntmps9
  go_wp2_with (first
   | (go_at_call 28; (with_reducible refine (impl_torusCode.calls k _ _ l0 _ _ _ _ 0 _ (Kd.C_below HR.out HB0.out) hc0 HCD.out).mono ?_); rintro e w1 ⟨rfl, hb1⟩; have HB1 := Aside0.mk (below_step HB0.out hb1); have x0 := (blk_cell (blk_below HBX.out hb1) 0).trans rfl; have x1 := (blk_cell (blk_below HBX.out hb1) 1).trans rfl; have x2 := (blk_cell (blk_below HBX.out hb1) 2).trans rfl; clear hb1)
   | (go_at_call 29; (with_reducible refine (impl_spots.own k _ _ l0 _ _ W H fs r _ (Kd.C_below HR.out HB1.out) hc0 HF.out HOK.out hpos hW hH HM.out HP.out).mono ?_); rintro e w2 ⟨v2, rfl, ho2, hb2⟩; have HO2 := Aside0.mk ho2; have HB2 := Aside0.mk (below_step HB1.out hb2); clear ho2 hb2))
  go_ret2
  exact ⟨_, rfl, Kd.S_lower HO2.out HB1.out.size, HB2.out⟩
end Go.Proofs.YtbphiipcnjelbaaGreat.Q
