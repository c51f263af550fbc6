/- Written by a program of this session (wip/tools/pp.py) out of the translation, with the kit's printer. -/
import Derived.Test.YtjgnlakgojookaaQ0
import Derived.Laws.Tables
namespace Go.Proofs.Ytjgnlakgojookaa.Q
open Go.RowKit Go.Proofs.YtjgnlakgojookaaW.PrintWords Go.Proofs.YtjgnlakgojookaaW.PrintLast Go.Proofs.YtjgnlakgojookaaW.PrintMore
attribute [local go_sem] max2_int min2_int max_two min_two max_three min_three max_four min_four
set_option linter.unusedVariables false
set_option linter.unusedSimpArgs false

/-! ### impl_vectorOf: walked by hand -/
def vecL : List S71 := [⟨-1, 0, 0⟩, ⟨1, 0, 0⟩, ⟨0, -1, 0⟩, ⟨0, 1, 0⟩, ⟨0, 0, -1⟩, ⟨0, 0, 1⟩]
def vecC (d : Int) : S71 := vecL.getD d.toNat z71
def impl_vectorOf.f (a0 : Int) : Option (Int × Int × Int) := if 0 ≤ a0 ∧ a0 < 6 then some ((vecC a0).f0, (vecC a0).f1, (vecC a0).f2) else none
def vecsCs : Array Value := #[.int .i64 (-1), .int .i64 0, .int .i64 0, .int .i64 1, .int .i64 0, .int .i64 0, .int .i64 0, .int .i64 (-1), .int .i64 0, .int .i64 0, .int .i64 1, .int .i64 0, .int .i64 0, .int .i64 0, .int .i64 (-1), .int .i64 0, .int .i64 0, .int .i64 1]
theorem vecs_store {ops : Array Oper} {rest : List Oper} {o : Oper} {a : Act} {w : World} {Q : Exit → Act → World → Prop} (hgd : o.guard = none) (x y : Operand) (ho : o.op = .store 125 x y) (g : Nat) (hx : a.eval x = .pointer (some ⟨g, 0, none⟩)) (hy : a.eval y = .agg vecsCs)
    (old : Array Value) (hg : w.heap[g]? = some (.cells old 125 (0, 0))) (hold : old.size = 18)
    (h : wpList Try.prog ops Q rest (a.put o.dst undef) (w.setRow g vecsCs)) : wpList Try.prog ops Q (o :: rest) a w :=
  wpList_store_row hgd 125 x y ho g vecsCs hx hy 125 old hg (by kernel_rfl) hold (by kernel_rfl) h
theorem below_row {B : Nat} {w0 w : World} {g : Nat} {cs : Array Value} (h : Below B w0 w) (hg : B ≤ g) : Below B w0 (w.setRow g cs) :=
  ⟨h.os, h.tape, h.output, by rw [setRow_size]; exact h.size, fun k hk => by rw [setRow_other _ _ _ _ (by omega)]; exact h.block k hk⟩
attribute [local irreducible] vecsCs
set_option maxRecDepth 100000 in
set_option maxHeartbeats 4000000 in
theorem impl_vectorOf.calls (a0 : Int) (r1 r2 r3 : Int) (w : World) (h : impl_vectorOf.f a0 = some (r1, r2, r3)) :
    Calls Try.prog 103 #[.int .i64 a0] w fun e w' => e = .returned (.agg #[.int .i64 r1, .int .i64 r2, .int .i64 r3]) ∧ Below w.heap.size w w' := by
  unfold impl_vectorOf.f at h
  by_cases hg : 0 ≤ a0 ∧ a0 < 6
  case neg => rw [if_neg hg] at h; exact absurd h (by simp)
  rw [if_pos hg] at h
  simp only [Option.some.injEq, Prod.mk.injEq] at h
  obtain ⟨h1, h2, h3⟩ := h
  have hu71 := Try.underlying71
  have hu125 := Try.underlying125
  have HG2 : Aside0 (((w.alloc (.cells #[.int .i64 0, .int .i64 0, .int .i64 0] 71 (0, 0))).alloc (.cells #[.int .i64 0, .int .i64 0, .int .i64 0, .int .i64 0, .int .i64 0, .int .i64 0, .int .i64 0, .int .i64 0, .int .i64 0, .int .i64 0, .int .i64 0, .int .i64 0, .int .i64 0, .int .i64 0, .int .i64 0, .int .i64 0, .int .i64 0, .int .i64 0] 125 (0, 0))).heap[w.heap.size + 1]? = some (.cells #[.int .i64 0, .int .i64 0, .int .i64 0, .int .i64 0, .int .i64 0, .int .i64 0, .int .i64 0, .int .i64 0, .int .i64 0, .int .i64 0, .int .i64 0, .int .i64 0, .int .i64 0, .int .i64 0, .int .i64 0, .int .i64 0, .int .i64 0, .int .i64 0] 125 (0, 0))) := ⟨by have h := heap_alloc_new (w.alloc (.cells #[.int .i64 0, .int .i64 0, .int .i64 0] 71 (0, 0))) (.cells #[.int .i64 0, .int .i64 0, .int .i64 0, .int .i64 0, .int .i64 0, .int .i64 0, .int .i64 0, .int .i64 0, .int .i64 0, .int .i64 0, .int .i64 0, .int .i64 0, .int .i64 0, .int .i64 0, .int .i64 0, .int .i64 0, .int .i64 0, .int .i64 0] 125 (0, 0)); rwa [show (w.alloc (.cells #[.int .i64 0, .int .i64 0, .int .i64 0] 71 (0, 0))).heap.size = w.heap.size + 1 by simp] at h⟩
  have HG1 : Aside0 (((w.alloc (.cells #[.int .i64 0, .int .i64 0, .int .i64 0] 71 (0, 0))).alloc (.cells #[.int .i64 0, .int .i64 0, .int .i64 0, .int .i64 0, .int .i64 0, .int .i64 0, .int .i64 0, .int .i64 0, .int .i64 0, .int .i64 0, .int .i64 0, .int .i64 0, .int .i64 0, .int .i64 0, .int .i64 0, .int .i64 0, .int .i64 0, .int .i64 0] 125 (0, 0))).heap[w.heap.size]? = some (.cells #[.int .i64 0, .int .i64 0, .int .i64 0] 71 (0, 0))) := ⟨blk_alloc (heap_alloc_new w _) _⟩
  obtain rfl | rfl | rfl | rfl | rfl | rfl : a0 = 0 ∨ a0 = 1 ∨ a0 = 2 ∨ a0 = 3 ∨ a0 = 4 ∨ a0 = 5 := by omega
  · simp [vecC, vecL] at h1 h2 h3
    subst h1 h2 h3
    go_enter Try.func103, Try.ntmps103
    go_wp2_with (first
      | ((with_reducible refine gate_dst (N := 10) rfl ?_); refine wpList_build rfl _ _ rfl (by kernel_rfl) ?_; rw [show (Value.agg (Option.getD _ _)) = Value.agg vecsCs from by kernel_rfl])
      | (refine vecs_store rfl _ _ rfl (w.heap.size + 1) rfl rfl _ HG2.out (by kernel_rfl) ?_; have HS := Aside0.mk (setRow_heap _ (w.heap.size + 1) _ vecsCs _ _ HG2.out); have HT := Aside0.mk ((setRow_other _ (w.heap.size + 1) w.heap.size vecsCs (by omega)).trans HG1.out); have c0 := (blk_cell HS.out 0).trans (show vecsCs[0]? = some (.int .i64 (-1)) by kernel_rfl); have c1 := (blk_cell HS.out 1).trans (show vecsCs[1]? = some (.int .i64 0) by kernel_rfl); have c2 := (blk_cell HS.out 2).trans (show vecsCs[2]? = some (.int .i64 0) by kernel_rfl); have d0 := (blk_cell HT.out 0).trans rfl; have d1 := (blk_cell HT.out 1).trans rfl; have d2 := (blk_cell HT.out 2).trans rfl; have m0 := blk_frozen HT.out 0; have m1 := blk_frozen HT.out 1; have m2 := blk_frozen HT.out 2))
    refine bodyPost_ret (results_cell_row rfl _ _ w.heap.size 71 #[.int .i64 (-1), .int .i64 0, .int .i64 0] (0, 0) _ rfl (blk_put (blk_put (blk_put HT.out 0 _ rfl) 1 _ rfl) 2 _ rfl) hu71 rfl (by kernel_rfl)) rfl ⟨rfl, below_set (below_set (below_set (below_row (below_alloc (below_alloc (Below.refl _ _) _) _) (by omega)) (Nat.le_refl _)) (Nat.le_refl _)) (Nat.le_refl _)⟩
  · simp [vecC, vecL] at h1 h2 h3
    subst h1 h2 h3
    go_enter Try.func103, Try.ntmps103
    go_wp2_with (first
      | ((with_reducible refine gate_dst (N := 10) rfl ?_); refine wpList_build rfl _ _ rfl (by kernel_rfl) ?_; rw [show (Value.agg (Option.getD _ _)) = Value.agg vecsCs from by kernel_rfl])
      | (refine vecs_store rfl _ _ rfl (w.heap.size + 1) rfl rfl _ HG2.out (by kernel_rfl) ?_; have HS := Aside0.mk (setRow_heap _ (w.heap.size + 1) _ vecsCs _ _ HG2.out); have HT := Aside0.mk ((setRow_other _ (w.heap.size + 1) w.heap.size vecsCs (by omega)).trans HG1.out); have c0 := (blk_cell HS.out 3).trans (show vecsCs[3]? = some (.int .i64 1) by kernel_rfl); have c1 := (blk_cell HS.out 4).trans (show vecsCs[4]? = some (.int .i64 0) by kernel_rfl); have c2 := (blk_cell HS.out 5).trans (show vecsCs[5]? = some (.int .i64 0) by kernel_rfl); have d0 := (blk_cell HT.out 0).trans rfl; have d1 := (blk_cell HT.out 1).trans rfl; have d2 := (blk_cell HT.out 2).trans rfl; have m0 := blk_frozen HT.out 0; have m1 := blk_frozen HT.out 1; have m2 := blk_frozen HT.out 2))
    refine bodyPost_ret (results_cell_row rfl _ _ w.heap.size 71 #[.int .i64 1, .int .i64 0, .int .i64 0] (0, 0) _ rfl (blk_put (blk_put (blk_put HT.out 0 _ rfl) 1 _ rfl) 2 _ rfl) hu71 rfl (by kernel_rfl)) rfl ⟨rfl, below_set (below_set (below_set (below_row (below_alloc (below_alloc (Below.refl _ _) _) _) (by omega)) (Nat.le_refl _)) (Nat.le_refl _)) (Nat.le_refl _)⟩
  · simp [vecC, vecL] at h1 h2 h3
    subst h1 h2 h3
    go_enter Try.func103, Try.ntmps103
    go_wp2_with (first
      | ((with_reducible refine gate_dst (N := 10) rfl ?_); refine wpList_build rfl _ _ rfl (by kernel_rfl) ?_; rw [show (Value.agg (Option.getD _ _)) = Value.agg vecsCs from by kernel_rfl])
      | (refine vecs_store rfl _ _ rfl (w.heap.size + 1) rfl rfl _ HG2.out (by kernel_rfl) ?_; have HS := Aside0.mk (setRow_heap _ (w.heap.size + 1) _ vecsCs _ _ HG2.out); have HT := Aside0.mk ((setRow_other _ (w.heap.size + 1) w.heap.size vecsCs (by omega)).trans HG1.out); have c0 := (blk_cell HS.out 6).trans (show vecsCs[6]? = some (.int .i64 0) by kernel_rfl); have c1 := (blk_cell HS.out 7).trans (show vecsCs[7]? = some (.int .i64 (-1)) by kernel_rfl); have c2 := (blk_cell HS.out 8).trans (show vecsCs[8]? = some (.int .i64 0) by kernel_rfl); have d0 := (blk_cell HT.out 0).trans rfl; have d1 := (blk_cell HT.out 1).trans rfl; have d2 := (blk_cell HT.out 2).trans rfl; have m0 := blk_frozen HT.out 0; have m1 := blk_frozen HT.out 1; have m2 := blk_frozen HT.out 2))
    refine bodyPost_ret (results_cell_row rfl _ _ w.heap.size 71 #[.int .i64 0, .int .i64 (-1), .int .i64 0] (0, 0) _ rfl (blk_put (blk_put (blk_put HT.out 0 _ rfl) 1 _ rfl) 2 _ rfl) hu71 rfl (by kernel_rfl)) rfl ⟨rfl, below_set (below_set (below_set (below_row (below_alloc (below_alloc (Below.refl _ _) _) _) (by omega)) (Nat.le_refl _)) (Nat.le_refl _)) (Nat.le_refl _)⟩
  · simp [vecC, vecL] at h1 h2 h3
    subst h1 h2 h3
    go_enter Try.func103, Try.ntmps103
    go_wp2_with (first
      | ((with_reducible refine gate_dst (N := 10) rfl ?_); refine wpList_build rfl _ _ rfl (by kernel_rfl) ?_; rw [show (Value.agg (Option.getD _ _)) = Value.agg vecsCs from by kernel_rfl])
      | (refine vecs_store rfl _ _ rfl (w.heap.size + 1) rfl rfl _ HG2.out (by kernel_rfl) ?_; have HS := Aside0.mk (setRow_heap _ (w.heap.size + 1) _ vecsCs _ _ HG2.out); have HT := Aside0.mk ((setRow_other _ (w.heap.size + 1) w.heap.size vecsCs (by omega)).trans HG1.out); have c0 := (blk_cell HS.out 9).trans (show vecsCs[9]? = some (.int .i64 0) by kernel_rfl); have c1 := (blk_cell HS.out 10).trans (show vecsCs[10]? = some (.int .i64 1) by kernel_rfl); have c2 := (blk_cell HS.out 11).trans (show vecsCs[11]? = some (.int .i64 0) by kernel_rfl); have d0 := (blk_cell HT.out 0).trans rfl; have d1 := (blk_cell HT.out 1).trans rfl; have d2 := (blk_cell HT.out 2).trans rfl; have m0 := blk_frozen HT.out 0; have m1 := blk_frozen HT.out 1; have m2 := blk_frozen HT.out 2))
    refine bodyPost_ret (results_cell_row rfl _ _ w.heap.size 71 #[.int .i64 0, .int .i64 1, .int .i64 0] (0, 0) _ rfl (blk_put (blk_put (blk_put HT.out 0 _ rfl) 1 _ rfl) 2 _ rfl) hu71 rfl (by kernel_rfl)) rfl ⟨rfl, below_set (below_set (below_set (below_row (below_alloc (below_alloc (Below.refl _ _) _) _) (by omega)) (Nat.le_refl _)) (Nat.le_refl _)) (Nat.le_refl _)⟩
  · simp [vecC, vecL] at h1 h2 h3
    subst h1 h2 h3
    go_enter Try.func103, Try.ntmps103
    go_wp2_with (first
      | ((with_reducible refine gate_dst (N := 10) rfl ?_); refine wpList_build rfl _ _ rfl (by kernel_rfl) ?_; rw [show (Value.agg (Option.getD _ _)) = Value.agg vecsCs from by kernel_rfl])
      | (refine vecs_store rfl _ _ rfl (w.heap.size + 1) rfl rfl _ HG2.out (by kernel_rfl) ?_; have HS := Aside0.mk (setRow_heap _ (w.heap.size + 1) _ vecsCs _ _ HG2.out); have HT := Aside0.mk ((setRow_other _ (w.heap.size + 1) w.heap.size vecsCs (by omega)).trans HG1.out); have c0 := (blk_cell HS.out 12).trans (show vecsCs[12]? = some (.int .i64 0) by kernel_rfl); have c1 := (blk_cell HS.out 13).trans (show vecsCs[13]? = some (.int .i64 0) by kernel_rfl); have c2 := (blk_cell HS.out 14).trans (show vecsCs[14]? = some (.int .i64 (-1)) by kernel_rfl); have d0 := (blk_cell HT.out 0).trans rfl; have d1 := (blk_cell HT.out 1).trans rfl; have d2 := (blk_cell HT.out 2).trans rfl; have m0 := blk_frozen HT.out 0; have m1 := blk_frozen HT.out 1; have m2 := blk_frozen HT.out 2))
    refine bodyPost_ret (results_cell_row rfl _ _ w.heap.size 71 #[.int .i64 0, .int .i64 0, .int .i64 (-1)] (0, 0) _ rfl (blk_put (blk_put (blk_put HT.out 0 _ rfl) 1 _ rfl) 2 _ rfl) hu71 rfl (by kernel_rfl)) rfl ⟨rfl, below_set (below_set (below_set (below_row (below_alloc (below_alloc (Below.refl _ _) _) _) (by omega)) (Nat.le_refl _)) (Nat.le_refl _)) (Nat.le_refl _)⟩
  · simp [vecC, vecL] at h1 h2 h3
    subst h1 h2 h3
    go_enter Try.func103, Try.ntmps103
    go_wp2_with (first
      | ((with_reducible refine gate_dst (N := 10) rfl ?_); refine wpList_build rfl _ _ rfl (by kernel_rfl) ?_; rw [show (Value.agg (Option.getD _ _)) = Value.agg vecsCs from by kernel_rfl])
      | (refine vecs_store rfl _ _ rfl (w.heap.size + 1) rfl rfl _ HG2.out (by kernel_rfl) ?_; have HS := Aside0.mk (setRow_heap _ (w.heap.size + 1) _ vecsCs _ _ HG2.out); have HT := Aside0.mk ((setRow_other _ (w.heap.size + 1) w.heap.size vecsCs (by omega)).trans HG1.out); have c0 := (blk_cell HS.out 15).trans (show vecsCs[15]? = some (.int .i64 0) by kernel_rfl); have c1 := (blk_cell HS.out 16).trans (show vecsCs[16]? = some (.int .i64 0) by kernel_rfl); have c2 := (blk_cell HS.out 17).trans (show vecsCs[17]? = some (.int .i64 1) by kernel_rfl); have d0 := (blk_cell HT.out 0).trans rfl; have d1 := (blk_cell HT.out 1).trans rfl; have d2 := (blk_cell HT.out 2).trans rfl; have m0 := blk_frozen HT.out 0; have m1 := blk_frozen HT.out 1; have m2 := blk_frozen HT.out 2))
    refine bodyPost_ret (results_cell_row rfl _ _ w.heap.size 71 #[.int .i64 0, .int .i64 0, .int .i64 1] (0, 0) _ rfl (blk_put (blk_put (blk_put HT.out 0 _ rfl) 1 _ rfl) 2 _ rfl) hu71 rfl (by kernel_rfl)) rfl ⟨rfl, below_set (below_set (below_set (below_row (below_alloc (below_alloc (Below.refl _ _) _) _) (by omega)) (Nat.le_refl _)) (Nat.le_refl _)) (Nat.le_refl _)⟩

end Go.Proofs.Ytjgnlakgojookaa.Q
