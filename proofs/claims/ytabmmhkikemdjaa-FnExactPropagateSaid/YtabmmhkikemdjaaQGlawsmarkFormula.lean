/- Written by a program of this session (wip/tools/pp.py) out of the translation, with the kit's printer. -/
import Derived.Test.YtabmmhkikemdjaaQ0
import Derived.Test.YtabmmhkikemdjaaQGlawsmarkInt64SS
namespace Go.Proofs.Ytabmmhkikemdjaa.Q
open Go.RowKit Go.Proofs.YtabmmhkikemdjaaW.PrintWords Go.Proofs.YtabmmhkikemdjaaW.PrintLast Go.Proofs.YtabmmhkikemdjaaW.PrintMore
attribute [local go_sem] max2_int min2_int max_two min_two max_three min_three max_four min_four
set_option linter.unusedVariables false
set_option linter.unusedSimpArgs false

/-! ### laws_markFormula: walked by hand -/
theorem srng {α : Type} {d : Kd α} {e : Nat} {w w' : World} {v : Value} {xs : List α} (h : Kd.S d e w' w.heap.size (fun _ => True) v xs) : Kd.S d e w' w.heap.size (fun k => w.heap.size ≤ k ∧ k < w'.heap.size) v xs := Kd.S_mono (Kd.S_bound h) (fun _ hk => ⟨hk.2.1, hk.2.2.1⟩)
theorem rrng {α : Type} {d : Kd α} {e : Nat} {w w' : World} {v : Value} {xs : List α} (h : Kd.R d e w' w.heap.size (fun _ => True) v xs) : Kd.R d e w' w.heap.size (fun k => w.heap.size ≤ k ∧ k < w'.heap.size) v xs := Kd.R_mono (Kd.R_bound h) (fun _ hk => ⟨hk.2.1, hk.2.2.1⟩)
def laws_markFormula.f (k : Nat) (_ : Int) (l : List (List Int)) (a : Int) : Option Int := laws_markInt64SS.f k l a
theorem laws_markFormula.mono (u : Int) (l : List (List Int)) (a : Int) (k : Nat) : LeO (laws_markFormula.f k u l a) (laws_markFormula.f (k + 1) u l a) := laws_markInt64SS.mono l a k
set_option maxRecDepth 100000 in
set_option maxHeartbeats 1000000 in
theorem laws_markFormula.calls (k : Nat) (P0 : Nat → Prop) (v : Value) (u : Int) (l : List (List Int)) (a r : Int) (w0 w : World) (hB : Below w0.heap.size w0 w) (ho : Kd.S (Kd.slice 2 (Kd.int .i64)) 32 w w0.heap.size P0 v l) (h : laws_markFormula.f k u l a = some r) :
    Calls Try.prog 15 #[.agg #[.int .i64 u, v], .int .i64 a] w fun e w' => e = .returned (.int .i64 r) ∧ Below w0.heap.size w0 w' ∧ Kept w w' P0 := by
  obtain ⟨A, c, rfl⟩ := Kd.S_slice ho
  have hu29 := Try.underlying28
  have HB0 := Aside0.mk hB
  have HO := Aside0.mk ho
  have HF := Aside0.mk h
  clear hB ho h
  have HBOX := Aside0.mk (heap_alloc_new w (.cells #[.int .i64 u, .slice A l.length c] 28 (0, 0)))
  have x0 := (blk_cell HBOX.out 0).trans rfl
  have x1 := (blk_cell HBOX.out 1).trans rfl
  go_enter Try.func15, Try.ntmps15
  go_wp2_with (go_at_call 35; refine (laws_markInt64SS.calls k P0 _ l a r w0 _ (below_alloc HB0.out _) (Kd.S_alloc HO.out _) HF.out).mono ?_; rintro e w2 ⟨rfl, hb2, hk2⟩)
  go_ret
  exact ⟨rfl, hb2, Kept.then_ (Kept.of_below (below_alloc (Below.refl _ _) _) _) hk2 (fun _ h => .inl h)⟩

end Go.Proofs.Ytabmmhkikemdjaa.Q
