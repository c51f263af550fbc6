/- Written by a program of this session (wip/tools/pp.py) out of the translation, with the kit's printer. -/
import Derived.Test.YtjgnlakgojookaaQ0
import Derived.Test.YtjgnlakgojookaaQGlawsmarkCubeSS
namespace Go.Proofs.Ytjgnlakgojookaa.Q
open Go.RowKit Go.Proofs.YtjgnlakgojookaaW.PrintWords Go.Proofs.YtjgnlakgojookaaW.PrintLast Go.Proofs.YtjgnlakgojookaaW.PrintMore
attribute [local go_sem] max2_int min2_int max_two min_two max_three min_three max_four min_four
set_option linter.unusedVariables false
set_option linter.unusedSimpArgs false

/-! ### laws_markAssembly: walked by hand -/
theorem srng {α : Type} {d : Kd α} {e : Nat} {w w' : World} {v : Value} {xs : List α} (h : Kd.S d e w' w.heap.size (fun _ => True) v xs) : Kd.S d e w' w.heap.size (fun k => w.heap.size ≤ k ∧ k < w'.heap.size) v xs := Kd.S_mono (Kd.S_bound h) (fun _ hk => ⟨hk.2.1, hk.2.2.1⟩)
theorem rrng {α : Type} {d : Kd α} {e : Nat} {w w' : World} {v : Value} {xs : List α} (h : Kd.R d e w' w.heap.size (fun _ => True) v xs) : Kd.R d e w' w.heap.size (fun k => w.heap.size ≤ k ∧ k < w'.heap.size) v xs := Kd.R_mono (Kd.R_bound h) (fun _ hk => ⟨hk.2.1, hk.2.2.1⟩)
def laws_markAssembly.f (k : Nat) (l : List (List S71)) (a : Int) : Option Int := laws_markCubeSS.f k l a
theorem laws_markAssembly.mono (l : List (List S71)) (a : Int) (k : Nat) : LeO (laws_markAssembly.f k l a) (laws_markAssembly.f (k + 1) l a) := laws_markCubeSS.mono l a k
set_option maxRecDepth 100000 in
set_option maxHeartbeats 1000000 in
theorem laws_markAssembly.calls (k : Nat) (P0 : Nat → Prop) (v : Value) (l : List (List S71)) (a r : Int) (w0 w : World) (hB : Below w0.heap.size w0 w) (ho : Kd.S (Kd.slice 71 k71) 36 w w0.heap.size P0 v l) (h : laws_markAssembly.f k l a = some r) :
    Calls Try.prog 30 #[.agg #[v], .int .i64 a] w fun e w' => e = .returned (.int .i64 r) ∧ Below w0.heap.size w0 w' ∧ Kept w w' P0 := by
  obtain ⟨A, c, rfl⟩ := Kd.S_slice ho
  have hu29 := Try.underlying29
  have HB0 := Aside0.mk hB
  have HO := Aside0.mk ho
  have HF := Aside0.mk h
  clear hB ho h
  have HBOX := Aside0.mk (heap_alloc_new w (.cells #[.slice A l.length c] 29 (0, 0)))
  have x0 := (blk_cell HBOX.out 0).trans rfl
  go_enter Try.func30, Try.ntmps30
  go_wp2_with (go_at_call 32; refine (laws_markCubeSS.calls k P0 _ l a r w0 _ (below_alloc HB0.out _) (Kd.S_alloc HO.out _) HF.out).mono ?_; rintro e w2 ⟨rfl, hb2, hk2⟩)
  go_ret
  exact ⟨rfl, hb2, Kept.then_ (Kept.of_below (below_alloc (Below.refl _ _) _) _) hk2 (fun _ h => .inl h)⟩

end Go.Proofs.Ytjgnlakgojookaa.Q
