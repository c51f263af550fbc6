/- Written by a program of this session (wip/tools/pp.py) out of the translation, with the kit's printer. -/
import Derived.Test.YtbphiipcnjelbaaGreatQ0
import Derived.Test.YtbphiipcnjelbaaGreatQ2
import Derived.LoopTactic
namespace Go.Proofs.YtbphiipcnjelbaaGreat.Q
open Go.RowKit Go.Proofs.YtbphiipcnjelbaaGreatW.PrintWords Go.Proofs.YtbphiipcnjelbaaGreatW.PrintLast Go.Proofs.YtbphiipcnjelbaaGreatW.PrintMore
attribute [local go_sem] max2_int min2_int max_two min_two max_three min_three max_four min_four
set_option linter.unusedVariables false
set_option linter.unusedSimpArgs false
theorem size_alE (w : World) (o : Obj) : (w.alloc o).heap.size = w.heap.size + 1 := by
 show (w.heap.push o).size = _
 simp
def laws_eqPiece.f (k : Nat) (l0_0 : List (S66)) (a0_1 : Int) (a0_2 : Bool) (l1_0 : List (S66)) (a1_1 : Int) (a1_2 : Bool) : Option Bool :=
 (laws_eqCellS.f k l0_0 l1_0).bind fun t => if t = true then (if a0_1 = a1_1 then (if (a0_2 != a1_2) = true then some false else some true) else some false) else some false
theorem laws_eqPiece.mono : ∀ a0 a1 a2 a3 a4 a5 k, LeO (laws_eqPiece.f k a0 a1 a2 a3 a4 a5) (laws_eqPiece.f (k + 1) a0 a1 a2 a3 a4 a5) := by
 intro a0 a1 a2 a3 a4 a5 k
 unfold laws_eqPiece.f
 exact LeO.bind (laws_eqCellS.mono _ _ _) (fun t => LeO.refl _)
set_option maxRecDepth 100000 in
set_option maxHeartbeats 1600000 in
theorem laws_eqPiece.calls (k : Nat) (A0_0 : Option Addr) (c0_0 : Nat) (l0_0 : List (S66)) (a0_1 : Int) (a0_2 : Bool) (A1_0 : Option Addr) (c1_0 : Nat) (l1_0 : List (S66)) (a1_1 : Int) (a1_2 : Bool) (r : Bool) (w : World) (hr0_0 : Kd.C k66 w A0_0 l0_0.length l0_0) (hc0_0 : l0_0.length ≤ c0_0) (hr1_0 : Kd.C k66 w A1_0 l1_0.length l1_0) (hc1_0 : l1_0.length ≤ c1_0) (h : laws_eqPiece.f k l0_0 a0_1 a0_2 l1_0 a1_1 a1_2 = some r) :
  Calls Tryz.prog 11 #[.agg #[.slice A0_0 l0_0.length c0_0, .int .i64 a0_1, .bool a0_2], .agg #[.slice A1_0 l1_0.length c1_0, .int .i64 a1_1, .bool a1_2]] w fun e w' => e = .returned (.bool r) ∧ Below w.heap.size w w' := by
 have hu30 := Tryz.underlying31
 have HR := Aside0.mk hr0_0
 have HR1 := Aside0.mk hr1_0
 clear hr0_0 hr1_0
 unfold laws_eqPiece.f at h
 obtain ⟨t, ht, h1⟩ := Option.bind_eq_some_iff.mp h
 have HT := Aside0.mk ht
 clear h ht
 have HBa := Aside0.mk (below_alloc (Below.refl w.heap.size w) (.cells #[.slice A0_0 l0_0.length c0_0, .int .i64 a0_1, .bool a0_2] 31))
 have HBb := Aside0.mk (below_alloc HBa.out (.cells #[.slice A1_0 l1_0.length c1_0, .int .i64 a1_1, .bool a1_2] 31))
 have HXa := Aside0.mk (blk_below (heap_alloc_new w (.cells #[.slice A0_0 l0_0.length c0_0, .int .i64 a0_1, .bool a0_2] 31 (0, 0))) (below_alloc (Below.refl _ _) (.cells #[.slice A1_0 l1_0.length c1_0, .int .i64 a1_1, .bool a1_2] 31)))
 have hxb := heap_alloc_new (w.alloc (.cells #[.slice A0_0 l0_0.length c0_0, .int .i64 a0_1, .bool a0_2] 31)) (.cells #[.slice A1_0 l1_0.length c1_0, .int .i64 a1_1, .bool a1_2] 31 (0, 0))
 rw [size_alE] at hxb
 have HXb := Aside0.mk hxb
 clear hxb
 go_enter Tryz.func11, Tryz.ntmps11
 go_wp2_with (go_at_call 30; refine (laws_eqCellS.calls k _ _ l0_0 _ _ l1_0 t _ (Kd.C_below HR.out HBb.out) hc0_0 (Kd.C_below HR1.out HBb.out) hc1_0 HT.out).mono ?_; rintro e w3 ⟨rfl, hb3⟩; have hb4 : Below _ _ w3 := (by first | exact hb3 | exact hb3.below); have HB3 := Aside0.mk (below_step HBb.out hb4); have HX3 := Aside0.mk (blk_below HXa.out hb4); have HY3 := Aside0.mk (blk_below HXb.out hb4); have x1 := (blk_cell HX3.out 1).trans rfl; have x2 := (blk_cell HX3.out 2).trans rfl; have y1 := (blk_cell HY3.out 1).trans rfl; have y2 := (blk_cell HY3.out 2).trans rfl; clear hb3 hb4; (try (cases t)))
 all_goals (
  go_ret
  refine ⟨?_, HB3.out⟩
  clear HR HR1 HT HBa HBb HXa HXb HX3 HY3 HB3 x1 x2 y1 y2 hu30
  simp_all)
end Go.Proofs.YtbphiipcnjelbaaGreat.Q
