/- Written by a program of this session (wip/tools/pp.py) out of the translation, with the kit's printer. -/
import Derived.Test.YtbphiipcnjelbaaGreatQ0
import Derived.Test.YtbphiipcnjelbaaGreatQ6
import Derived.Test.YtbphiipcnjelbaaGreatQGspecl18Add
import Derived.Test.YtbphiipcnjelbaaGreatQGspecl25Spots
import Derived.Laws.Rows
namespace Go.Proofs.YtbphiipcnjelbaaGreat.Q
open Go.RowKit Go.Proofs.YtbphiipcnjelbaaGreatW.PrintWords Go.Proofs.YtbphiipcnjelbaaGreatW.PrintLast Go.Proofs.YtbphiipcnjelbaaGreatW.PrintMore
attribute [local go_sem] max2_int min2_int max_two min_two max_three min_three max_four min_four
set_option linter.unusedVariables false
set_option linter.unusedSimpArgs false
theorem size_alW (w : World) (o : Obj) : (w.alloc o).heap.size = w.heap.size + 1 := by
 show (w.heap.push o).size = _
 simp
theorem wh_ok {W H : Nat} (hW : 1 ≤ W ∧ W ≤ 6) (hH : 1 ≤ H ∧ H ≤ 6) : RowKit.wrap64 ((W : Int) * (H : Int)) = ((W * H : Nat) : Int) := by
 have h : W * H ≤ 36 := Nat.le_trans (Nat.mul_le_mul hW.2 hH.2) (by omega)
 rw [show ((W : Int) * (H : Int)) = ((W * H : Nat) : Int) by simp]
 exact (IntWalk.i64_left _).symm.trans (IntWalk.i64_in _ (by omega))
theorem srngV {w w' : World} {v : Value} {xs : List (List Int)} (h : Kd.S (Kd.slice 2 kI) 38 w' w.heap.size (fun _ => True) v xs) : Kd.S (Kd.slice 2 kI) 38 w' w.heap.size (fun k => w.heap.size ≤ k ∧ k < w'.heap.size) v xs := Kd.S_mono (Kd.S_bound h) (fun _ hk => ⟨hk.2.1, hk.2.2.1⟩)
theorem rrngV {α : Type} {d : Kd α} {e : Nat} {w w' : World} {v : Value} {xs : List α} (h : Kd.R d e w' w.heap.size (fun _ => True) v xs) : Kd.R d e w' w.heap.size (fun k => w.heap.size ≤ k ∧ k < w'.heap.size) v xs := Kd.R_mono (Kd.R_bound h) (fun _ hk => ⟨hk.2.1, hk.2.2.1⟩)
theorem put3 (w : World) (g : Nat) (a b c : Value) (k : Nat) (hk : k ≠ g) : (((w.setCell ⟨g, 0, none⟩ a).setCell ⟨g, 1, none⟩ b).setCell ⟨g, 2, none⟩ c).heap[k]? = w.heap[k]? :=
 (Below.heap_setCell _ ⟨g, 2, none⟩ c k hk).trans ((Below.heap_setCell _ ⟨g, 1, none⟩ b k hk).trans (Below.heap_setCell w ⟨g, 0, none⟩ a k hk))
theorem put3_blk {w : World} {g : Nat} {t : TypeId} {x y z : Value} (a b c : Value) (h : w.heap[g]? = some (.cells #[x, y, z] t (0, 0))) : (((w.setCell ⟨g, 0, none⟩ a).setCell ⟨g, 1, none⟩ b).setCell ⟨g, 2, none⟩ c).heap[g]? = some (.cells #[a, b, c] t (0, 0)) :=
 blk_put (blk_put (blk_put h 0 a rfl) 1 b rfl) 2 c rfl
theorem put3_below {B : Nat} {w0 w : World} (h : Below B w0 w) {g : Nat} (hg : B ≤ g) (a b c : Value) : Below B w0 (((w.setCell ⟨g, 0, none⟩ a).setCell ⟨g, 1, none⟩ b).setCell ⟨g, 2, none⟩ c) :=
 ((h.setCell (p := ⟨g, 0, none⟩) hg a).setCell (p := ⟨g, 1, none⟩) hg b).setCell (p := ⟨g, 2, none⟩) hg c
theorem box_W (w : World) (o o' : Obj) : ((w.alloc o).alloc o').heap[w.heap.size + 1]? = some o' := by
 have h := heap_alloc_new (w.alloc o) o'
 rwa [size_alW] at h
set_option maxRecDepth 100000 in
set_option maxHeartbeats 1600000 in
theorem spec_l25Cover.own (k : Nat) (A0 : Option Addr) (c0 : Nat) (l0 : List S66) (a1 : Int) (a2 : Bool) (W H : Nat) (fs : List (List S66)) (w : World) (hr0 : Kd.C k66 w A0 l0.length l0) (hc0 : l0.length ≤ c0) (hf : spec_l11Forms.f k l0 a1 a2 = some fs) (hok : frmsOk fs) (hW : 1 ≤ W ∧ W ≤ 6) (hH : 1 ≤ H ∧ H ≤ 6) :
  Calls Tryz.prog 34 #[.agg #[.slice A0 l0.length c0, .int .i64 a1, .bool a2], .int .i64 W, .int .i64 H] w fun e w' => ∃ v', e = .returned (.agg #[.int .i64 ((W * H : Nat) : Int), .int .i64 ((W * H : Nat) : Int), v']) ∧ Kd.R (Kd.slice 2 kI) 38 w' w.heap.size (fun _ => True) v' (spotsS W H fs) ∧ Below w.heap.size w w' := by
 have hu1 := Tryz.underlying31
 have hu2 := Tryz.underlying45
 have HR := Aside0.mk hr0
 have HWH := Aside0.mk (wh_ok hW hH)
 have HF := Aside0.mk hf
 have HOK := Aside0.mk hok
 have HB0 := Aside0.mk (below_alloc (below_alloc (Below.refl w.heap.size w) (.cells #[.slice A0 l0.length c0, .int .i64 a1, .bool a2] 31)) (.cells #[.int .i64 0, .int .i64 0, .slice none 0 0] 45))
 have HBX := Aside0.mk (box_W w (.cells #[.slice A0 l0.length c0, .int .i64 a1, .bool a2] 31) (.cells #[.int .i64 0, .int .i64 0, .slice none 0 0] 45))
 clear hr0 hf hok
 go_enter Tryz.func34, Tryz.ntmps34
 go_wp2_with (go_at_call 26; (with_reducible refine (spec_l25Spots.own k _ _ l0 _ _ W H fs _ (Kd.C_below HR.out HB0.out) hc0 HF.out HOK.out hW hH).mono ?_); rintro e w2 ⟨v2, rfl, ho2, hb2⟩; obtain ⟨A2, c2, e2⟩ := Kd.R_slice ho2; subst e2; have HO2 := Aside0.mk (rrngV ho2); have HX2 := Aside0.mk (blk_below HBX.out hb2); have x0 := (blk_cell HX2.out 0).trans rfl; have x1 := (blk_cell HX2.out 1).trans rfl; have x2 := (blk_cell HX2.out 2).trans rfl; have z0 := blk_frozen HX2.out 0; have z1 := blk_frozen HX2.out 1; have z2 := blk_frozen HX2.out 2; have HB2 := Aside0.mk (below_step HB0.out hb2); clear ho2 hb2)
 refine bodyPost_ret (results_cell_row rfl _ _ (w.heap.size + 1) 45 #[.int .i64 (RowKit.wrap64 ((W : Int) * (H : Int))), .int .i64 (RowKit.wrap64 ((W : Int) * (H : Int))), .slice A2 (spotsS W H fs).length c2] (0, 0) _ rfl (put3_blk _ _ _ HX2.out) hu2 rfl rfl) rfl ?_
 refine ⟨_, by rw [HWH.out], Kd.R_lower (Kd.R_mono (Kd.R_step HO2.out (fun k hk _ => put3 _ _ _ _ _ k (by have h := hk.1; rw [size_alW, size_alW] at h; omega))) (fun _ _ => trivial)) HB0.out.size, put3_below HB2.out (by omega) _ _ _⟩
end Go.Proofs.YtbphiipcnjelbaaGreat.Q
