/- Written by a program of this session (wip/tools/pp.py) out of the translation, with the kit's printer. -/
import Derived.Test.YtbphiipcnjelbaaGreatQ0
import Derived.Test.YtbphiipcnjelbaaGreatQGlawsmarkInt64SS
import Derived.LoopTactic
namespace Go.Proofs.YtbphiipcnjelbaaGreat.Q
open Go.RowKit Go.Proofs.YtbphiipcnjelbaaGreatW.PrintWords Go.Proofs.YtbphiipcnjelbaaGreatW.PrintLast Go.Proofs.YtbphiipcnjelbaaGreatW.PrintMore
attribute [local go_sem] max2_int min2_int max_two min_two max_three min_three max_four min_four
set_option linter.unusedVariables false
set_option linter.unusedSimpArgs false
set_option maxHeartbeats 1600000 in
theorem markV.calls (k : Nat) (P0 : Nat → Prop) (n : Int) (v : Value) (l : List (List Int)) (a r : Int) (l' : List (List Int)) (w0 w : World) (hB : Below w0.heap.size w0 w) (hS : Kd.S (Kd.slice 2 (Kd.int .i64)) 38 w w0.heap.size P0 v l) (h : markIS k l a = some (r, l')) :
  Calls Tryz.prog 22 #[.agg #[.int .i64 n, .int .i64 n, v], .int .i64 a] w fun e w' => e = .returned (.int .i64 r) ∧ Kd.S (Kd.slice 2 (Kd.int .i64)) 38 w' w0.heap.size P0 v l' ∧ Below w0.heap.size w0 w' ∧ Kept w w' P0 := by
 have hu45 := Tryz.underlying45
 obtain ⟨A, c, e⟩ := Kd.S_slice hS
 subst e
 have HS := Aside0.mk hS
 have HT := Aside0.mk h
 have HB := Aside0.mk hB
 clear hS h hB
 have hba := below_alloc (Below.refl w.heap.size w) (.cells #[.int .i64 n, .int .i64 n, .slice A l.length c] 45)
 have HBa := Aside0.mk hba
 have HBW := Aside0.mk (below_alloc HB.out (.cells #[.int .i64 n, .int .i64 n, .slice A l.length c] 45))
 have HS1 := Aside0.mk (Kd.S_below HS.out hba)
 have HKa := Aside0.mk (show Kept w (w.alloc (.cells #[.int .i64 n, .int .i64 n, .slice A l.length c] 45)) P0 from ⟨hba.size, fun q hq _ => hba.block q hq⟩)
 clear hba
 go_enter Tryz.func22, Tryz.ntmps22
 go_wp2_with (go_at_call 13; (with_reducible refine (markIS.calls k P0 _ l a r l' w0 _ HBW.out HS1.out HT.out).mono ?_); rintro e w3 ⟨rfl, hr3, hb3, hk3⟩; have HS3 := Aside0.mk hr3; have HB3 := Aside0.mk hb3; have HK3 := Aside0.mk (Kept.then_ HKa.out hk3 (fun q hq => .inl hq)); clear hr3 hb3 hk3)
 go_ret
 exact ⟨rfl, HS3.out, HB3.out, HK3.out⟩
end Go.Proofs.YtbphiipcnjelbaaGreat.Q
