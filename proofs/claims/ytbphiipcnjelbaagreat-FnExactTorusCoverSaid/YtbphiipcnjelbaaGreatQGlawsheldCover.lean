/- Written by a program of this session (wip/tools/pp.py) out of the translation, with the kit's printer. -/
import Derived.Test.YtbphiipcnjelbaaGreatQ0
import Derived.Test.YtbphiipcnjelbaaGreatQ18
import Derived.LoopTactic
namespace Go.Proofs.YtbphiipcnjelbaaGreat.Q
open Go.RowKit Go.Proofs.YtbphiipcnjelbaaGreatW.PrintWords Go.Proofs.YtbphiipcnjelbaaGreatW.PrintLast Go.Proofs.YtbphiipcnjelbaaGreatW.PrintMore
attribute [local go_sem] max2_int min2_int max_two min_two max_three min_three max_four min_four
set_option linter.unusedVariables false
set_option linter.unusedSimpArgs false
set_option maxHeartbeats 1600000 in
theorem heldV.calls (k : Nat) (n : Int) (A0 : Option Addr) (c0 : Nat) (l0 : List (List Int)) (a q : Int) (w : World) (hr0 : Kd.C (Kd.slice 2 (Kd.int .i64)) w A0 l0.length l0) (hc0 : l0.length ≤ c0) (h : laws_heldInt64SS.f k l0 a = some q) (hq : 0 ≤ q) :
  Calls Tryz.prog 23 #[.agg #[.int .i64 n, .int .i64 n, .slice A0 l0.length c0], .int .i64 a] w fun e w' => e = .returned (.int .i64 q) ∧ Below w.heap.size w w' := by
 have hu45 := Tryz.underlying45
 have hqd : decide (q < 0) = false := decide_eq_false (by omega)
 have HR := Aside0.mk hr0
 have HT := Aside0.mk h
 clear hr0 h hq
 have HBa := Aside0.mk (below_alloc (Below.refl w.heap.size w) (.cells #[.int .i64 n, .int .i64 n, .slice A0 l0.length c0] 45))
 go_enter Tryz.func23, Tryz.ntmps23
 go_wp2_with (go_at_call 14; (with_reducible refine (laws_heldInt64SS.calls k _ _ l0 a q _ (Kd.C_below HR.out HBa.out) hc0 HT.out).mono ?_); rintro e w3 ⟨rfl, hd3⟩; have HB3 := Aside0.mk (below_step HBa.out hd3.below); clear hd3)
 go_ret
 exact ⟨rfl, HB3.out⟩
end Go.Proofs.YtbphiipcnjelbaaGreat.Q
