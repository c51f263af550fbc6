/- Written by a program of this session (wip/tools/pp.py) out of the translation, with the kit's printer. -/
import Derived.Test.YtbphiipcnjelbaaGreatQ0
import Derived.Test.YtbphiipcnjelbaaGreatQ16
import Derived.LoopTactic
namespace Go.Proofs.YtbphiipcnjelbaaGreat.Q
open Go.RowKit Go.Proofs.YtbphiipcnjelbaaGreatW.PrintWords Go.Proofs.YtbphiipcnjelbaaGreatW.PrintLast Go.Proofs.YtbphiipcnjelbaaGreatW.PrintMore
attribute [local go_sem] max2_int min2_int max_two min_two max_three min_three max_four min_four
set_option linter.unusedVariables false
set_option linter.unusedSimpArgs false
theorem size_alV (w : World) (o : Obj) : (w.alloc o).heap.size = w.heap.size + 1 := by
 show (w.heap.push o).size = _
 simp
set_option maxRecDepth 100000 in
set_option maxHeartbeats 1600000 in
theorem eqV.calls (k : Nat) (n : Int) (A0 : Option Addr) (c0 : Nat) (l0 : List (List Int)) (A1 : Option Addr) (c1 : Nat) (w : World) (hr0 : Kd.C (Kd.slice 2 (Kd.int .i64)) w A0 l0.length l0) (hc0 : l0.length ≤ c0) (hr1 : Kd.C (Kd.slice 2 (Kd.int .i64)) w A1 l0.length l0) (hc1 : l0.length ≤ c1) (h : laws_eqInt64SS.f k l0 l0 = some true) :
  Calls Tryz.prog 21 #[.agg #[.int .i64 n, .int .i64 n, .slice A0 l0.length c0], .agg #[.int .i64 n, .int .i64 n, .slice A1 l0.length c1]] w fun e w' => e = .returned (.bool true) ∧ Below w.heap.size w w' := by
 have hu45 := Tryz.underlying45
 have hnn : (n != n) = false := by simp
 have HR := Aside0.mk hr0
 have HR1 := Aside0.mk hr1
 have HT := Aside0.mk h
 clear hr0 hr1 h
 have HBa := Aside0.mk (below_alloc (Below.refl w.heap.size w) (.cells #[.int .i64 n, .int .i64 n, .slice A0 l0.length c0] 45))
 have HBb := Aside0.mk (below_alloc HBa.out (.cells #[.int .i64 n, .int .i64 n, .slice A1 l0.length c1] 45))
 go_enter Tryz.func21, Tryz.ntmps21
 go_wp2_with (go_at_call 10; (with_reducible refine (laws_eqInt64SS.calls k _ _ l0 _ _ l0 true _ (Kd.C_below HR.out HBb.out) hc0 (Kd.C_below HR1.out HBb.out) hc1 HT.out).mono ?_); rintro e w3 ⟨rfl, hd3⟩; have HB3 := Aside0.mk (below_step HBb.out hd3.below); clear hd3)
 go_ret
 exact ⟨rfl, HB3.out⟩
end Go.Proofs.YtbphiipcnjelbaaGreat.Q
