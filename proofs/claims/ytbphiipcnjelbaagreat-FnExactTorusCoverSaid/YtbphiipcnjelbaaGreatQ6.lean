/- Written by a program of this session (wip/tools/pp.py) out of the translation, with the kit's printer. -/
import Derived.Test.YtbphiipcnjelbaaGreatQ0
import Derived.Test.YtbphiipcnjelbaaGreatQ3
import Derived.Test.YtbphiipcnjelbaaGreatQ5
namespace Go.Proofs.YtbphiipcnjelbaaGreat.Q
open Go.RowKit Go.Proofs.YtbphiipcnjelbaaGreatW.PrintWords Go.Proofs.YtbphiipcnjelbaaGreatW.PrintLast Go.Proofs.YtbphiipcnjelbaaGreatW.PrintMore
attribute [local go_sem] max2_int min2_int max_two min_two max_three min_three max_four min_four
set_option linter.unusedVariables false
set_option linter.unusedSimpArgs false

/-! ### spec_l02Move: function 135 -/
def spec_l02Move.l0 : Nat → List (S66) → Int → Int → List (S66) → Int → Option ((List (S66)))
 | 0, _, _, _, _, _ => none
 | k + 1, x0, x1, x2, x7, x8 => if x8 < (x0.length : Int) then (if 0 ≤ x8 then (if x7.length < 8796093022208 then (spec_l02Move.l0 k x0 x1 x2 (x7 ++ [(⟨wrap64 (((rd_T66 x0 x8).f0) + x1), wrap64 (((rd_T66 x0 x8).f1) + x2)⟩ : S66)]) (wrap64 (x8 + 1))) else (none)) else (none)) else (some x7)
def spec_l02Move.f (k : Nat) (l0 : List (S66)) (a1 : Int) (a2 : Int) : Option ((List (S66))) := spec_l02Move.l0 k l0 a1 a2 (([] : List (S66))) 0
theorem spec_l02Move.mono_l : ∀ k, (∀ y0 y1 y2 y3 y4, LeO (spec_l02Move.l0 k y0 y1 y2 y3 y4) (spec_l02Move.l0 (k + 1) y0 y1 y2 y3 y4))
 | 0 => fun _ _ _ _ _ r h => by simp [spec_l02Move.l0] at h
 | k + 1 => by
  have ih0 := spec_l02Move.mono_l k
  ·intro y0 y1 y2 y3 y4
   unfold spec_l02Move.l0
   with_reducible repeat' first | exact ih0 _ _ _ _ _ | exact LeO.refl _ | exact LeO.none _ | refine LeO.ite ?_ ?_ | refine LeO.bind ?_ (fun _ => ?_)
theorem spec_l02Move.mono : ∀ a0 a1 a2 k, LeO (spec_l02Move.f k a0 a1 a2) (spec_l02Move.f (k + 1) a0 a1 a2) := by
 intro a0 a1 a2 k
 have ih0 := spec_l02Move.mono_l k
 unfold spec_l02Move.f
 with_reducible repeat' first | exact ih0 _ _ _ _ _ | exact LeO.refl _ | exact LeO.none _ | refine LeO.ite ?_ ?_ | refine LeO.bind ?_ (fun _ => ?_)
def spec_l02Move.T5 : Bool × List (List Nat × List Nat) := (true, [([], []), ([], []), ([], []), ([1, 2], [1, 2]), ([3], [3]), ([4], [4]), ([], []), ([5, 6], [5, 6]), ([], []), ([], []), ([8, 9], [8, 9]), ([10], [10]), ([11], [11]), ([], []), ([12, 13], [12, 13]), ([7, 14], [7, 14]), ([15], [15]), ([0, 16], [0, 16]), ([17, 17, 0, 1, 2, 3, 4, 5, 6, 7, 8, 9, 10, 11, 12, 13, 14, 15, 16, 17], [0, 17])])
def spec_l02Move.B5 : List Nat := [0, 0, 0, 6, 14, 30, 0, 126, 0, 0, 768, 1792, 3840, 0, 16128, 32766, 65534, 131071, 262143]
theorem spec_l02Move.tab5 : rtab .any (opsOf Tryz.f135 5) = spec_l02Move.T5 := by kernel_rfl
theorem spec_l02Move.bits5 : waitsOk spec_l02Move.T5.2 spec_l02Move.B5 = true := by kernel_rfl
set_option maxHeartbeats 8000000 in
set_option maxRecDepth 100000 in
theorem spec_l02Move.calls (k : Nat) (A0 : Option Addr) (c0 : Nat) (l0 : List (S66)) (a1 : Int) (a2 : Int) (r : List (S66)) (w : World) (hr0 : Kd.C k66 w A0 l0.length l0) (hc0 : l0.length ≤ c0) (h : spec_l02Move.f k l0 a1 a2 = some r) :
  Calls Tryz.prog 135 #[.slice A0 l0.length c0, .int .i64 a1, .int .i64 a2] w fun e w' => ∃ v0_ : Value, e = .returned (v0_) ∧ Kd.R k66 66 w' w.heap.size (fun _ => True) v0_ r ∧ Below w.heap.size w w' := by
 have hu66 := Tryz.underlying66
 have HR0 := am hr0
 have HC0 := am hc0
 clear hr0 hc0
 have HB := am (Below.refl w.heap.size w)
 have H : (spec_l02Move.l0 k l0 a1 a2 (([] : List (S66))) 0) = some r := h
 clear h
 obtain ⟨y231, hy231⟩ : ∃ y_ : List (S66), y_ = (([] : List (S66))) := ⟨_, rfl⟩
 replace H : (spec_l02Move.l0 k l0 a1 a2 y231 0) = some r := by first | (rw [hy231]; with_reducible exact H) | (have H2_ := (Option.bind_some _ _).symm.trans H; rw [hy231]; with_reducible exact H2_) | (have H2_ := (Option.bind_some _ _).symm.trans H; with_reducible exact H2_) | with_reducible exact H | (rw [hy231]; exact H) | exact H
 have Ny231 := am hy231
 clear hy231
 have H' := am H
 clear H
 go_enter Tryz.func135, Tryz.ntmps135
 go_wp2_with (first | ((with_reducible refine gate_dst (N := 9) rfl ?_); refine Kd.R_lit k66 _ 66 ?hg (N := 9) ?hd (xs := ([] : List (S66))) (inner := []) (ok := fun _ => True) (okp := fun _ => True) ?hr ?hp (fun _ hk => hk) trivial (Below.refl _ _) (Nat.le_refl _) (by simp) ?_; (case hd => rfl); (case hg => rfl); (case hr => first | (go_simp; done) | (go_simp; rfl)); (case hp => exact (Reps.none _ _)); intro v232 w4 ho5 hb hg_ hnew_; clear hg_ hnew_; (first | rw [← Ny231.out] at ho5 | (simp only [Int.reduceToNat] at ho5; rw [← Ny231.out] at ho5)); have n0_ := am (Kd.R_lower ho5 (Bb5 zB)); have n1_ := am (Bb6 zB hb); clear HB; have HO233 := n0_; have HB := n1_; clear n0_ n1_; clear hb ho5))
 go_loopg [7, 8] k (fun kq v7 v8 w' => ∃ (x7_1 : List (S66)) (x8_1 : Int), v8 = .int .i64 x8_1 ∧ Aside0 (spec_l02Move.l0 kq l0 a1 a2 x7_1 x8_1 = some r) ∧ Aside0 (kq ≤ k) ∧ Aside0 (Kd.R k66 66 w' w.heap.size (fun _ => True) v7 x7_1) ∧ Aside0 (Below w.heap.size w w'))
 case atStart => exact ⟨(y231), (0), zS, H', ⟨Nat.le_refl _⟩, ⟨zR HO233⟩, ⟨zB⟩⟩
 case round =>
  clear H'
  try clear c1
  try clear p2
  obtain ⟨x7_1, x8_1, rfl, HA, HK1, HO_7, HB⟩ := hrel
  cases gk with
  | zero => exact absurd HA.out (by simp [spec_l02Move.l0])
  | succ k1 =>
   have H := HA.out
   clear HA
   simp only [spec_l02Move.l0] at H
   by_cases c6 : x8_1 < (l0.length : Int)
   rotate_left
   ·rw [if_neg c6] at H
    have c6b0 : decide (x8_1 < (l0.length : Int)) = false := decide_eq_false c6
    clear c6
    obtain rfl := oi H
    go_wp2
    go_ret
    exact ⟨_, zE, by (with_reducible repeat (first | apply Kd.R_alloc | apply Kd.R_drewN | apply Kd.R_drew)); exact HO_7.out, zB⟩
   rw [if_pos c6] at H
   have c6b0 : decide (x8_1 < (l0.length : Int)) = true := decide_eq_true c6
   clear c6
   by_cases c7 : 0 ≤ x8_1
   rotate_left
   ·rw [if_neg c7] at H
    exact absurd H (by simp)
   rw [if_pos c7] at H
   have c7b0 : decide (0 ≤ x8_1) = true := decide_eq_true c7
   clear c7
   by_cases c8 : x7_1.length < 8796093022208
   rotate_left
   ·rw [if_neg c8] at H
    exact absurd H (by simp)
   rw [if_pos c8] at H
   have LMc8 := am c8
   clear c8
   obtain ⟨y236, hy236⟩ : ∃ y_ : List (S66), y_ = (x7_1 ++ [(⟨wrap64 (((rd_T66 l0 x8_1).f0) + a1), wrap64 (((rd_T66 l0 x8_1).f1) + a2)⟩ : S66)]) := ⟨_, rfl⟩
   replace H : (spec_l02Move.l0 k1 l0 a1 a2 y236 (wrap64 (x8_1 + 1))) = some r := by first | (rw [hy236]; with_reducible exact H) | (have H2_ := (Option.bind_some _ _).symm.trans H; rw [hy236]; with_reducible exact H2_) | (have H2_ := (Option.bind_some _ _).symm.trans H; with_reducible exact H2_) | with_reducible exact H | (rw [hy236]; exact H) | exact H
   have Ny236 := am hy236
   clear hy236
   have H' := am H
   clear H
   try go_wp2
   have n0_ := am (Kd.R_drew HO_7.out)
   have n1_ := am (Bb3 HB.out)
   clear HO_7
   clear HB
   have HO_7 := n0_
   have HB := n1_
   clear n0_ n1_
   have p234 : 0 ≤ (x8_1 : Int) := zD
   have q234 : x8_1 < (l0.length : Int) := zD
   obtain ⟨ad234, e234, hx234_0, hx234_1⟩ := at_T66 HR0.out x8_1 p234 q234
   have hw234_1 := hx234_1
   have hw234_0 := hx234_0
   cases e234
   replace hx234_0 := pc HB.out hx234_0
   replace hx234_1 := pc HB.out hx234_1
   replace p234 := eq_true p234
   replace q234 := eq_true q234
   have p235 : 0 ≤ (x8_1 : Int) := zD
   have q235 : x8_1 < (l0.length : Int) := zD
   obtain ⟨ad235, e235, hx235_0, hx235_1⟩ := at_T66 HR0.out x8_1 p235 q235
   have hw235_1 := hx235_1
   have hw235_0 := hx235_0
   obtain rfl : ad234 = ad235 := (by injection e235)
   replace hx235_0 := pc HB.out hx235_0
   replace hx235_1 := pc HB.out hx235_1
   replace p235 := eq_true p235
   replace q235 := eq_true q235
   refine start_ (n := 19) (S := fun w' => w'.cell? (ad234.add ((x8_1).toNat * 2)) = some (.int .i64 ((rd_T66 l0 x8_1).f0)) ∧ w'.cell? ⟨(ad234.add ((x8_1).toNat * 2)).block, (ad234.add ((x8_1).toNat * 2)).off + 1, none⟩ = some (.int .i64 ((rd_T66 l0 x8_1).f1)) ∧ w'.cell? (ad234.add ((x8_1).toNat * 2)) = some (.int .i64 ((rd_T66 l0 x8_1).f0)) ∧ w'.cell? ⟨(ad234.add ((x8_1).toNat * 2)).block, (ad234.add ((x8_1).toNat * 2)).off + 1, none⟩ = some (.int .i64 ((rd_T66 l0 x8_1).f1))) (ds := []) #[z',z',z',z',z',z',z',z',z',z',z',z',z',z',z',z',z',z',z'] (by kernel_rfl) rfl rfl ⟨(pc HB.out hw234_0), (pc HB.out hw234_1), (pc HB.out hw235_0), (pc HB.out hw235_1)⟩ (fun hHeld => ?_); refine with_tabW spec_l02Move.tab5 spec_l02Move.bits5 (fun HT_ HW_ => ?_)
   generalize wr.drew = w9 at HO_7 HB hx234_0 hx234_1 hx235_0 hx235_1 hHeld ⊢
   refine pure_ (i := 0) (N := some 16) (v := ?_) (a' := ?_) #[o',z',z',z',z',z',z',z',z',z',z',z',z',z',z',z',z',z',z'] rfl rfl zA (fun _ _ _ h => h) (Or.inl ⟨by rfl, ?_⟩) ?_ ?_
   rotate_left
   ·intro w'
    go_simp
    rfl
   rotate_left
   ·exact zP
   refine pure_ (i := 1) (N := some 17) (v := ?_) (a' := ?_) #[o',o',z',z',z',z',z',z',z',z',z',z',z',z',z',z',z',z',z'] rfl rfl zA (fun _ _ _ h => h) (Or.inl ⟨by rfl, ?_⟩) ?_ ?_
   rotate_left
   ·intro w'
    go_simp
    rfl
   rotate_left
   ·exact zP
   refine pure_ (i := 2) (N := some 18) (v := ?_) (a' := ?_) #[o',o',o',z',z',z',z',z',z',z',z',z',z',z',z',z',z',z',z'] rfl rfl zA (fun _ _ _ h => h) (Or.inl ⟨by rfl, ?_⟩) ?_ ?_
   rotate_left
   ·intro w'
    go_simp
    rfl
   rotate_left
   ·exact zP
   refine pure_ (i := 3) (N := some 19) (v := ?_) (a' := ?_) #[o',o',o',o',z',z',z',z',z',z',z',z',z',z',z',z',z',z',z'] rfl rfl zA (fun _ _ _ h => h) (Or.inl ⟨by rfl, ?_⟩) ?_ ?_
   rotate_left
   ·intro w'
    go_simp
    rfl
   rotate_left
   ·exact zP
   refine pure_ (i := 4) (N := some 20) (v := ?_) (a' := ?_) #[o',o',o',o',o',z',z',z',z',z',z',z',z',z',z',z',z',z',z'] rfl rfl zA (fun _ _ _ h => h) (Or.inl ⟨by rfl, ?_⟩) ?_ ?_
   rotate_left
   ·intro w'
    go_simp
    rfl
   rotate_left
   ·exact zP
   refine pure_ (i := 6) (N := some 22) (v := ?_) (a' := ?_) #[o',o',o',o',o',z',o',z',z',z',z',z',z',z',z',z',z',z',z'] rfl rfl zA (fun _ _ _ h => h) (Or.inl ⟨by rfl, ?_⟩) ?_ ?_
   rotate_left
   ·intro w'
    go_simp
    rfl
   rotate_left
   ·exact zP
   refine pure_ (i := 8) (N := some 24) (v := ?_) (a' := ?_) #[o',o',o',o',o',z',o',z',o',z',z',z',z',z',z',z',z',z',z'] rfl rfl zA (fun _ _ _ h => h) (Or.inl ⟨by rfl, ?_⟩) ?_ ?_
   rotate_left
   ·intro w'
    go_simp
    rfl
   rotate_left
   ·exact zP
   refine pure_ (i := 9) (N := some 25) (v := ?_) (a' := ?_) #[o',o',o',o',o',z',o',z',o',o',z',z',z',z',z',z',z',z',z'] rfl rfl zA (fun _ _ _ h => h) (Or.inl ⟨by rfl, ?_⟩) ?_ ?_
   rotate_left
   ·intro w'
    go_simp
    rfl
   rotate_left
   ·exact zP
   refine pure_ (i := 10) (N := some 26) (v := ?_) (a' := ?_) #[o',o',o',o',o',z',o',z',o',o',o',z',z',z',z',z',z',z',z'] rfl rfl zA (fun _ _ _ h => h) (Or.inl ⟨by rfl, ?_⟩) ?_ ?_
   rotate_left
   ·intro w'
    go_simp
    rfl
   rotate_left
   ·exact zP
   refine pure_ (i := 11) (N := some 27) (v := ?_) (a' := ?_) #[o',o',o',o',o',z',o',z',o',o',o',o',z',z',z',z',z',z',z'] rfl rfl zA (fun _ _ _ h => h) (Or.inl ⟨by rfl, ?_⟩) ?_ ?_
   rotate_left
   ·intro w'
    go_simp
    rfl
   rotate_left
   ·exact zP
   refine pure_ (i := 13) (N := some 29) (v := ?_) (a' := ?_) #[o',o',o',o',o',z',o',z',o',o',o',o',z',o',z',z',z',z',z'] rfl rfl zA (fun _ _ _ h => h) (Or.inl ⟨by rfl, ?_⟩) ?_ ?_
   rotate_left
   ·intro w'
    go_simp
    rfl
   rotate_left
   ·exact zP
   refine take_ (i := 5) (N := some 21) (v := ?_) (a' := ?_) #[o',o',o',o',o',o',o',z',o',o',o',o',z',o',z',z',z',z',z'] rfl rfl (take_ofW HT_.out HW_.out (by kernel_rfl)) (fun _ _ _ h => h) (Or.inl ⟨by rfl, ?_⟩) hHeld ?_ ?_
   rotate_left
   ·rintro w' ⟨s0, s1, s2, s3⟩
    go_simp
    rfl
   rotate_left
   ·exact zP
   refine pure_ (i := 7) (N := some 23) (v := ?_) (a' := ?_) #[o',o',o',o',o',o',o',o',o',o',o',o',z',o',z',z',z',z',z'] rfl rfl zA (fun _ _ _ h => h) (Or.inl ⟨by rfl, ?_⟩) ?_ ?_
   rotate_left
   ·intro w'
    go_simp
    rfl
   rotate_left
   ·exact zP
   refine take_ (i := 12) (N := some 28) (v := ?_) (a' := ?_) #[o',o',o',o',o',o',o',o',o',o',o',o',o',o',z',z',z',z',z'] rfl rfl (take_ofW HT_.out HW_.out (by kernel_rfl)) (fun _ _ _ h => h) (Or.inl ⟨by rfl, ?_⟩) hHeld ?_ ?_
   rotate_left
   ·rintro w' ⟨s0, s1, s2, s3⟩
    go_simp
    rfl
   rotate_left
   ·exact zP
   refine pure_ (i := 14) (N := some 30) (v := ?_) (a' := ?_) #[o',o',o',o',o',o',o',o',o',o',o',o',o',o',o',z',z',z',z'] rfl rfl zA (fun _ _ _ h => h) (Or.inl ⟨by rfl, ?_⟩) ?_ ?_
   rotate_left
   ·intro w'
    go_simp
    rfl
   rotate_left
   ·exact zP
   refine pure_ (i := 15) (N := some 31) (v := ?_) (a' := ?_) #[o',o',o',o',o',o',o',o',o',o',o',o',o',o',o',o',z',z',z'] rfl rfl zA (fun _ _ _ h => h) (Or.inl ⟨by rfl, ?_⟩) ?_ ?_
   rotate_left
   ·intro w'
    go_simp
    rfl
   rotate_left
   ·exact zP
   refine one_ (i := 16) (N := some 32) #[o',o',o',o',o',o',o',o',o',o',o',o',o',o',o',o',o',z',z'] rfl rfl (one_of HT_.out (by kernel_rfl)) (by decide) (fun K hK => ?_)
   refine value_ (w1 := ?_) (v := ?_) (by rfl) rfl ?_ ?_
   rotate_left 2
   ·go_simp
    constructor
    ·rfl
    rfl
   refine hK.out _ _ ⟨(World.cell?_alloc_lt _ _ _ (World.block_lt_of_cell? _ _ ((pc HB.out hw234_0)))).trans ((pc HB.out hw234_0)), (World.cell?_alloc_lt _ _ _ (World.block_lt_of_cell? _ _ ((pc HB.out hw234_1)))).trans ((pc HB.out hw234_1)), (World.cell?_alloc_lt _ _ _ (World.block_lt_of_cell? _ _ ((pc HB.out hw235_0)))).trans ((pc HB.out hw235_0)), (World.cell?_alloc_lt _ _ _ (World.block_lt_of_cell? _ _ ((pc HB.out hw235_1)))).trans ((pc HB.out hw235_1))⟩ (fun hHeld => ?_)
   clear hK K
   refine norm_ (a' := ?_) ?_ ?_
   rotate_left
   ·show Act.put _ (some 32) _ = _
    simp only [Act.put, sa, i64_w, i32_w]
    rfl
   refine one_ (i := 17) (N := some 33) #[o',o',o',o',o',o',o',o',o',o',o',o',o',o',o',o',o',o',z'] rfl rfl (one_of HT_.out (by kernel_rfl)) (by decide) (fun K hK => ?_)
   refine Kd.R_append_step k66 (w0 := w) w.heap.size (by rfl) (.tmp 16) (.tmp 32) 29 66 (.agg #[(.int .i64 0), (.int .i64 0)]) 16 rfl Tryz.underlying29 info66 rfl (by decide) (by omega) u7 x7_1 (⟨wrap64 (((rd_T66 l0 x8_1).f0) + a1), wrap64 (((rd_T66 l0 x8_1).f1) + a2)⟩ : S66) [.int .i64 (wrap64 (((rd_T66 l0 x8_1).f0) + a1)), .int .i64 (wrap64 (((rd_T66 l0 x8_1).f1) + a2))] (fun _ => True) (fun _ => False) rfl rfl ?aP (fun _ hk => hk.elim) ?aF ?aO ?aB ?aS ?aL ?_
   (case aP => exact k66_mkM _ _ _ (⟨wrap64 (((rd_T66 l0 x8_1).f0) + a1), wrap64 (((rd_T66 l0 x8_1).f1) + a2)⟩ : S66))
   (case aB => exact zB)
   (case aF => exact (fun _ _ => trivial))
   (case aO => exact (zR HO_7))
   (case aS => exact (Bb5 zB))
   (case aL => first | (have := LMc8.out; omega) | (have h_ := Nat.le_of_lt LMc8.out; exact h_))
   intro v237 w10 ho hb hg hat
   rw [← Ny236.out] at ho
   have n0_ := am (hb)
   have n1_ := am (ho)
   clear HB
   clear HO_7
   have HB := n0_
   have HO238 := n1_
   clear n0_ n1_
   clear ho hb hg hat
   refine hK.out _ _ ⟨(pc HB.out hw234_0), (pc HB.out hw234_1), (pc HB.out hw235_0), (pc HB.out hw235_1)⟩ (fun hHeld => ?_)
   clear hK K
   refine norm_ (a' := ?_) ?_ ?_
   rotate_left
   ·show Act.put _ (some 33) _ = _
    simp only [Act.put, sa, i64_w, i32_w]
    rfl
   refine pure_ (i := 18) (N := some 7) (v := ?_) (a' := ?_) #[o',o',o',o',o',o',o',o',o',o',o',o',o',o',o',o',o',o',o'] rfl rfl zA (fun _ _ _ h => h) (Or.inl ⟨by rfl, ?_⟩) ?_ ?_
   rotate_left
   ·intro w'
    go_simp
    rfl
   rotate_left
   ·exact zP
   refine done_ (done_of HT_.out (by kernel_rfl)) ?_
   try go_wp2
   go_roundg k1
   case measure => have := HK1.out; omega
   case rel => exact ⟨(y236), (wrap64 (x8_1 + 1)), zS, H', ⟨by have := HK1.out; omega⟩, ⟨zR HO238⟩, ⟨zB⟩⟩

/-! ### spec_l02Normal: function 117 -/
def spec_l02Normal.f (k : Nat) (l0 : List (S66)) : Option ((List (S66))) := (spec_l02Least.f k l0).bind fun bt239 => ((spec_l02Move.f k l0 (wrap64 (-bt239.1)) (wrap64 (-bt239.2))).bind fun t241 => (some t241))
theorem spec_l02Normal.mono : ∀ a0 k, LeO (spec_l02Normal.f k a0) (spec_l02Normal.f (k + 1) a0) := by
 intro a0 k
 unfold spec_l02Normal.f
 with_reducible repeat' first | exact spec_l02Least.mono _ _ | exact spec_l02Move.mono _ _ _ _ | exact LeO.refl _ | exact LeO.none _ | refine LeO.ite ?_ ?_ | refine LeO.bind ?_ (fun _ => ?_)
set_option maxHeartbeats 8000000 in
set_option maxRecDepth 100000 in
theorem spec_l02Normal.calls (k : Nat) (A0 : Option Addr) (c0 : Nat) (l0 : List (S66)) (r : List (S66)) (w : World) (hr0 : Kd.C k66 w A0 l0.length l0) (hc0 : l0.length ≤ c0) (h : spec_l02Normal.f k l0 = some r) :
  Calls Tryz.prog 117 #[.slice A0 l0.length c0] w fun e w' => ∃ v0_ : Value, e = .returned (v0_) ∧ Kd.R k66 66 w' w.heap.size (fun _ => True) v0_ r ∧ Below w.heap.size w w' := by
 have HR0 := am hr0
 have HC0 := am hc0
 clear hr0 hc0
 have HB := am (Below.refl w.heap.size w)
 have H : ((spec_l02Least.f k l0).bind fun bt239 => ((spec_l02Move.f k l0 (wrap64 (-bt239.1)) (wrap64 (-bt239.2))).bind fun t241 => (some t241))) = some r := h
 clear h
 replace H := ob H
 obtain ⟨⟨t239, t240⟩, A20, H⟩ := H
 (try dsimp only at H)
 have A2 := am A20
 clear A20
 replace H := ob H
 obtain ⟨t241, A30, H⟩ := H
 replace H : (some t241) = some r := H
 have A3 := am A30
 clear A30
 obtain rfl := oi H
 go_enter Tryz.func117, Tryz.ntmps117
 go_wp2_with (first | ((with_reducible refine gate_callee (f := 76) rfl ?_); refine goesL_ (some 7) rfl rfl Tryz.func76 (by kernel_rfl) rfl #[.slice A0 l0.length c0] rfl zL ?_; (with_reducible refine (spec_l02Least.calls k _ _ l0 t239 t240 _ ?side1 ?side2 A2.out).mono ?_); (case side1 => repeat (first | exact HR0.out | (with_reducible refine Kd.C_alloc ?_ _) | (with_reducible refine Kd.C_drewN ?_ _) | (with_reducible refine Kd.C_drew ?_))); (case side2 => exact HC0.out); rintro e w4 ⟨rfl, hb⟩; refine ⟨_, rfl, ?_⟩; have n0_ := am (Bb6 zB hb); clear HB; have HB := n0_; clear n0_; (try clear hb); (try clear hb2); (try clear hk); (try clear hi)) | ((with_reducible refine gate_callee (f := 135) rfl ?_); refine goesL_ (some 15) rfl rfl Tryz.func135 (by kernel_rfl) rfl #[.slice A0 l0.length c0, .int .i64 (wrap64 (-t239)), .int .i64 (wrap64 (-t240))] rfl zL ?_; (with_reducible refine (spec_l02Move.calls k _ _ l0 (wrap64 (-t239)) (wrap64 (-t240)) t241 _ ?side1 ?side2 A3.out).mono ?_); (case side1 => repeat (first | exact (Kd.C_below HR0.out HB.out) | (with_reducible refine Kd.C_alloc ?_ _) | (with_reducible refine Kd.C_drewN ?_ _) | (with_reducible refine Kd.C_drew ?_))); (case side2 => exact HC0.out); rintro e w5 ⟨v242, rfl, ho0, hb⟩; refine ⟨_, rfl, ?_⟩; have n0_ := am (Kd.R_lower ho0 (Bb5 zB)); have n1_ := am (Bb6 zB hb); clear HB; have HO243 := n0_; have HB := n1_; clear n0_ n1_; (try clear hb); (try clear hb2); (try clear hk); (try clear hi); (try clear ho0)))
 go_ret
 exact ⟨_, zE, by (with_reducible repeat (first | apply Kd.R_alloc | apply Kd.R_drewN | apply Kd.R_drew)); exact HO243.out, zB⟩

/-! ### spec_l02Insert: function 136 -/
abbrev spec_l02Insert.m0 : Array Bool := #[z',z',z',z',z',z',z',z',z',z']
abbrev spec_l02Insert.m1 : Array Bool := #[o',z',z',z',z',z',z',z',z',z']
abbrev spec_l02Insert.m2 : Array Bool := #[o',o',z',z',z',z',z',z',z',z']
abbrev spec_l02Insert.m3 : Array Bool := #[o',o',o',z',z',z',z',z',z',z']
abbrev spec_l02Insert.m4 : Array Bool := #[o',o',o',z',o',z',z',z',z',z']
abbrev spec_l02Insert.m5 : Array Bool := #[o',o',o',z',o',o',z',z',z',z']
abbrev spec_l02Insert.m6 : Array Bool := #[o',o',o',z',o',o',o',z',z',z']
abbrev spec_l02Insert.m7 : Array Bool := #[o',o',o',o',o',o',o',z',z',z']
abbrev spec_l02Insert.m8 : Array Bool := #[o',o',o',o',o',o',o',o',z',z']
abbrev spec_l02Insert.m9 : Array Bool := #[o',o',o',o',o',o',o',o',o',z']
abbrev spec_l02Insert.m10 : Array Bool := #[o',o',o',o',o',o',o',o',o',o']
def spec_l02Insert.l0 : Nat → List (S66) → List (S66) → Bool → Int → Int → Int → Option ((List (S66)))
 | 0, _, _, _, _, _, _ => none
 | k + 1, x0, x5, x6, x7, x245000, x245001 => if x7 < (x0.length : Int) then (if x6 = true then (if 0 ≤ x7 then (if x5.length < 8796093022208 then (spec_l02Insert.l0 k x0 (x5 ++ [(⟨(rd_T66 x0 x7).f0, (rd_T66 x0 x7).f1⟩ : S66)]) x6 (wrap64 (x7 + 1)) x245000 x245001) else (none)) else (none)) else (if 0 ≤ x7 then ((spec_l02Less.f x245000 x245001 ((rd_T66 x0 x7).f0) ((rd_T66 x0 x7).f1)).bind fun t253 => (if t253 = true then (if x5.length < 8796093022208 then ((some (x5 ++ [(⟨x245000, x245001⟩ : S66)] : List (S66))).bind fun y254 => (if y254.length < 8796093022208 then (spec_l02Insert.l0 k x0 (y254 ++ [(⟨(rd_T66 x0 x7).f0, (rd_T66 x0 x7).f1⟩ : S66)]) true (wrap64 (x7 + 1)) x245000 x245001) else (none))) else (none)) else (if x5.length < 8796093022208 then (spec_l02Insert.l0 k x0 (x5 ++ [(⟨(rd_T66 x0 x7).f0, (rd_T66 x0 x7).f1⟩ : S66)]) x6 (wrap64 (x7 + 1)) x245000 x245001) else (none)))) else (none))) else (if x6 = true then (some x5) else (if x5.length < 8796093022208 then (some (x5 ++ [(⟨x245000, x245001⟩ : S66)])) else (none)))
def spec_l02Insert.f (k : Nat) (l0 : List (S66)) (a1_0 : Int) (a1_1 : Int) : Option ((List (S66))) := spec_l02Insert.l0 k l0 (([] : List (S66))) false 0 a1_0 a1_1
theorem spec_l02Insert.mono_l : ∀ k, (∀ y0 y1 y2 y3 y4 y5, LeO (spec_l02Insert.l0 k y0 y1 y2 y3 y4 y5) (spec_l02Insert.l0 (k + 1) y0 y1 y2 y3 y4 y5))
 | 0 => fun _ _ _ _ _ _ r h => by simp [spec_l02Insert.l0] at h
 | k + 1 => by
  have ih0 := spec_l02Insert.mono_l k
  ·intro y0 y1 y2 y3 y4 y5
   unfold spec_l02Insert.l0
   with_reducible repeat' first | exact ih0 _ _ _ _ _ _ | exact LeO.refl _ | exact LeO.none _ | refine LeO.ite ?_ ?_ | refine LeO.bind ?_ (fun _ => ?_)
theorem spec_l02Insert.mono : ∀ a0 a1 a2 k, LeO (spec_l02Insert.f k a0 a1 a2) (spec_l02Insert.f (k + 1) a0 a1 a2) := by
 intro a0 a1 a2 k
 have ih0 := spec_l02Insert.mono_l k
 unfold spec_l02Insert.f
 with_reducible repeat' first | exact ih0 _ _ _ _ _ _ | exact LeO.refl _ | exact LeO.none _ | refine LeO.ite ?_ ?_ | refine LeO.bind ?_ (fun _ => ?_)
def spec_l02Insert.T6 : Bool × List (List Nat × List Nat) := (true, [([], []), ([0], [0]), ([1], [1]), ([2], [2]), ([2], [2]), ([2], [2]), ([4, 5, 2], [2, 4, 5]), ([6, 2], [2, 6]), ([3, 7, 2, 2], [2, 3, 7]), ([2, 8], [2, 8])])
def spec_l02Insert.B6 : List Nat := [0, 1, 3, 7, 7, 7, 55, 119, 255, 511]
theorem spec_l02Insert.tab6 : rtab .any (opsOf Tryz.f136 6) = spec_l02Insert.T6 := by kernel_rfl
theorem spec_l02Insert.bits6 : waitsOk spec_l02Insert.T6.2 spec_l02Insert.B6 = true := by kernel_rfl
set_option maxHeartbeats 8000000 in
set_option maxRecDepth 100000 in
theorem spec_l02Insert.calls (k : Nat) (A0 : Option Addr) (c0 : Nat) (l0 : List (S66)) (a1_0 : Int) (a1_1 : Int) (r : List (S66)) (w : World) (hr0 : Kd.C k66 w A0 l0.length l0) (hc0 : l0.length ≤ c0) (h : spec_l02Insert.f k l0 a1_0 a1_1 = some r) :
  Calls Tryz.prog 136 #[.slice A0 l0.length c0, .agg #[.int .i64 a1_0, .int .i64 a1_1]] w fun e w' => ∃ v0_ : Value, e = .returned (v0_) ∧ Kd.R k66 66 w' w.heap.size (fun _ => True) v0_ r ∧ Below w.heap.size w w' := by
 have hu66 := Tryz.underlying66
 have HR0 := am hr0
 have HC0 := am hc0
 clear hr0 hc0
 have HB := am (Below.refl w.heap.size w)
 have H : (spec_l02Insert.l0 k l0 (([] : List (S66))) false 0 a1_0 a1_1) = some r := h
 clear h
 obtain ⟨y245, hy245⟩ : ∃ y_ : List (S66), y_ = (([] : List (S66))) := ⟨_, rfl⟩
 replace H : (spec_l02Insert.l0 k l0 y245 false 0 a1_0 a1_1) = some r := by first | (rw [hy245]; with_reducible exact H) | (have H2_ := (Option.bind_some _ _).symm.trans H; rw [hy245]; with_reducible exact H2_) | (have H2_ := (Option.bind_some _ _).symm.trans H; with_reducible exact H2_) | with_reducible exact H | (rw [hy245]; exact H) | exact H
 have Ny245 := am hy245
 clear hy245
 have H' := am H
 clear H
 go_enter Tryz.func136, Tryz.ntmps136
 go_wp2_with (first | ((with_reducible refine gate_dst (N := 3) rfl ?_); refine box_event ?hg (N := 3) ?hd (cs := #[.int .i64 a1_0, .int .i64 a1_1]) (t := 66) ?hr ?_; (case hd => rfl); (case hg => rfl); (case hr => first | (go_simp; done) | (go_simp; rfl)); intro gb244 hg w3 hbox hb; have n0_ := am (Bb6 zB hb); have n1_ := am (hbox); have n2_ := am ((by rw [hg]; exact (Bb5 zB) : w.heap.size ≤ gb244)); have n3_ := n2_; clear HB; have HB := n0_; have BK244 := n1_; have GW244 := n2_; have GE244 := n3_; clear n0_ n1_ n2_ n3_; clear hb hbox hg) | ((with_reducible refine gate_dst (N := 8) rfl ?_); refine Kd.R_lit k66 _ 66 ?hg (N := 8) ?hd (xs := ([] : List (S66))) (inner := []) (ok := fun _ => True) (okp := fun _ => True) ?hr ?hp (fun _ hk => hk) trivial (Below.refl _ _) (Nat.le_refl _) (by simp) ?_; (case hd => rfl); (case hg => rfl); (case hr => first | (go_simp; done) | (go_simp; rfl)); (case hp => exact (Reps.none _ _)); intro v246 w4 ho5 hb hg_ hnew_; clear hg_ hnew_; (first | rw [← Ny245.out] at ho5 | (simp only [Int.reduceToNat] at ho5; rw [← Ny245.out] at ho5)); have n0_ := am (Kd.R_lower (Kd.R_newB ho5 (g := gb244) (o := .cells #[.int .i64 a1_0, .int .i64 a1_1] 66 (0, 0)) (zK BK244)) (Bb5 (by repeat (first | (with_reducible first | exact HB.out | apply Bb1 | apply Bb2 | apply Bb3 | refine Bb4 ?_ GE244.out) | exact HB.out)))); have n1_ := am (Bk4 (g := gb244) (o := .cells #[.int .i64 a1_0, .int .i64 a1_1] 66 (0, 0)) (zK BK244) hb); have n2_ := am (Bb6 (by repeat (first | (with_reducible first | exact HB.out | apply Bb1 | apply Bb2 | apply Bb3 | refine Bb4 ?_ GE244.out) | exact HB.out)) hb); clear BK244; clear HB; have HO247 := n0_; have BK244 := n1_; have HB := n2_; clear n0_ n1_ n2_; clear hb ho5))
 go_loopg [5, 6, 7] k (fun kq v5 v6 v7 w' => ∃ (x5_1 : List (S66)) (x6_1 : Bool) (x7_1 : Int), v6 = .bool x6_1 ∧ v7 = .int .i64 x7_1 ∧ Aside0 (spec_l02Insert.l0 kq l0 x5_1 x6_1 x7_1 a1_0 a1_1 = some r) ∧ Aside0 (kq ≤ k) ∧ Aside0 (Kd.R k66 66 w' w.heap.size (fun k_ => k_ ≠ gb244) v5 x5_1) ∧ Aside0 (w'.heap[gb244]? = some (.cells #[.int .i64 a1_0, .int .i64 a1_1] 66 (0, 0))) ∧ Aside0 (Below w.heap.size w w'))
 case atStart => exact ⟨(y245), (false), (0), zS, zS, H', ⟨Nat.le_refl _⟩, ⟨by (with_reducible repeat (first | apply Kd.R_alloc | apply Kd.R_drewN | apply Kd.R_drew)); exact Kd.R_mono HO247.out (fun _ hk => hk.2)⟩, ⟨zK BK244⟩, ⟨by repeat (first | (with_reducible first | exact HB.out | apply Bb1 | apply Bb2 | apply Bb3 | refine Bb4 ?_ GE244.out) | exact HB.out)⟩⟩
 case round =>
  clear H'
  try clear c1
  try clear p2
  obtain ⟨x5_1, x6_1, x7_1, rfl, rfl, HA, HK1, HO_5, BK244, HB⟩ := hrel
  cases gk with
  | zero => exact absurd HA.out (by simp [spec_l02Insert.l0])
  | succ k1 =>
   have H := HA.out
   clear HA
   simp only [spec_l02Insert.l0] at H
   by_cases c6 : x7_1 < (l0.length : Int)
   rotate_left
   ·rw [if_neg c6] at H
    have c6b0 : decide (x7_1 < (l0.length : Int)) = false := decide_eq_false c6
    clear c6
    by_cases c26 : x6_1 = true
    ·subst c26
     have H1 : (some x5_1) = some r := by first | (rw [if_pos rfl] at H; exact H) | rfl
     clear H
     have H := H1
     clear H1
     obtain rfl := oi H
     go_wp2
     go_ret
     exact ⟨_, zE, by (with_reducible repeat (first | apply Kd.R_alloc | apply Kd.R_drewN | apply Kd.R_drew)); exact Kd.R_mono HO_5.out (fun _ hk => trivial), by repeat (first | (with_reducible first | exact HB.out | apply Bb1 | apply Bb2 | apply Bb3 | refine Bb4 ?_ GE244.out) | exact HB.out)⟩
    replace c26 := ef c26
    subst c26
    have H1 : (if x5_1.length < 8796093022208 then (some (x5_1 ++ [(⟨a1_0, a1_1⟩ : S66)])) else (none)) = some r := by first | (rw [if_neg (show ¬ (false = true) by decide)] at H; exact H) | rfl
    clear H
    have H := H1
    clear H1
    by_cases c27 : x5_1.length < 8796093022208
    rotate_left
    ·rw [if_neg c27] at H
     exact absurd H (by simp)
    rw [if_pos c27] at H
    have LMc27 := am c27
    clear c27
    obtain ⟨y265, hy265⟩ : ∃ y_ : List (S66), y_ = (x5_1 ++ [(⟨a1_0, a1_1⟩ : S66)]) := ⟨_, rfl⟩
    replace H : (some y265) = some r := by first | (rw [hy265]; with_reducible exact H) | (have H2_ := (Option.bind_some _ _).symm.trans H; rw [hy265]; with_reducible exact H2_) | (have H2_ := (Option.bind_some _ _).symm.trans H; with_reducible exact H2_) | with_reducible exact H | (rw [hy265]; exact H) | exact H
    have Ny265 := am hy265
    clear hy265
    obtain rfl := oi H
    have hcz28_0 : wr.cell? ⟨gb244, 0, none⟩ = some (.int .i64 a1_0) := (kc BK244.out 0).trans rfl
    have hcz28_1 : wr.cell? ⟨gb244, 1, none⟩ = some (.int .i64 a1_1) := (kc BK244.out 1).trans rfl
    have hfz28_0 := kf BK244.out 0
    have hfz28_1 := kf BK244.out 1
    go_wp2_with (first | ((with_reducible refine gate_builtin (b := .append) (xs := #[.tmp 38, .tmp 40]) rfl ?_); at_builtin; refine Kd.R_append k66 (w0 := w) w.heap.size rfl (.tmp 38) (.tmp 40) 29 66 (.agg #[(.int .i64 0), (.int .i64 0)]) 16 rfl Tryz.underlying29 info66 rfl (by decide) (by omega) u5 x5_1 (⟨a1_0, a1_1⟩ : S66) [.int .i64 a1_0, .int .i64 a1_1] (fun k_ => k_ ≠ gb244) (fun _ => False) rfl rfl ?aP (fun _ hk => hk.elim) ?aF ?aO ?aB ?aS ?aL ?_; (case aP => exact k66_mkM _ _ _ (⟨a1_0, a1_1⟩ : S66)); (case aB => exact (by repeat (first | (with_reducible first | exact HB.out | apply Bb1 | apply Bb2 | apply Bb3 | refine Bb4 ?_ GE244.out) | exact HB.out))); (case aF => exact (fun k_ hk => Kd.freshB (g := gb244) (o := .cells #[.int .i64 a1_0, .int .i64 a1_1] 66 (0, 0)) (zK BK244) k_ hk)); (case aO => exact (zR HO_5)); (case aS => exact (Bb5 (by repeat (first | (with_reducible first | exact HB.out | apply Bb1 | apply Bb2 | apply Bb3 | refine Bb4 ?_ GE244.out) | exact HB.out)))); (case aL => first | (have := LMc27.out; omega) | (have h_ := Nat.le_of_lt LMc27.out; exact h_)); intro v266 w29 ho hb hg hat; rw [← Ny265.out] at ho; have n0_ := am (blk_grown (g := gb244) (o := .cells #[.int .i64 a1_0, .int .i64 a1_1] 66 (0, 0)) (zK BK244) hg (Kd.R_away HO_5.out (fun _ hk => hk))); have n1_ := am (hb); have n2_ := am (ho); clear BK244; clear HB; clear HO_5; have BK244 := n0_; have HB := n1_; have HO267 := n2_; clear n0_ n1_ n2_; clear ho hb hg hat))
    go_ret
    exact ⟨_, zE, by (with_reducible repeat (first | apply Kd.R_alloc | apply Kd.R_drewN | apply Kd.R_drew)); exact Kd.R_mono HO267.out (fun _ hk => trivial), by repeat (first | (with_reducible first | exact HB.out | apply Bb1 | apply Bb2 | apply Bb3 | refine Bb4 ?_ GE244.out) | exact HB.out)⟩
   rw [if_pos c6] at H
   have c6b0 : decide (x7_1 < (l0.length : Int)) = true := decide_eq_true c6
   clear c6
   by_cases c7 : x6_1 = true
   ·subst c7
    have H1 : (if 0 ≤ x7_1 then (if x5_1.length < 8796093022208 then (spec_l02Insert.l0 k1 l0 (x5_1 ++ [(⟨(rd_T66 l0 x7_1).f0, (rd_T66 l0 x7_1).f1⟩ : S66)]) true (wrap64 (x7_1 + 1)) a1_0 a1_1) else (none)) else (none)) = some r := by first | (rw [if_pos rfl] at H; exact H) | rfl
    clear H
    have H := H1
    clear H1
    by_cases c8 : 0 ≤ x7_1
    rotate_left
    ·rw [if_neg c8] at H
     exact absurd H (by simp)
    rw [if_pos c8] at H
    have c8b0 : decide (0 ≤ x7_1) = true := decide_eq_true c8
    clear c8
    by_cases c9 : x5_1.length < 8796093022208
    rotate_left
    ·rw [if_neg c9] at H
     exact absurd H (by simp)
    rw [if_pos c9] at H
    have LMc9 := am c9
    clear c9
    obtain ⟨y249, hy249⟩ : ∃ y_ : List (S66), y_ = (x5_1 ++ [(⟨(rd_T66 l0 x7_1).f0, (rd_T66 l0 x7_1).f1⟩ : S66)]) := ⟨_, rfl⟩
    replace H : (spec_l02Insert.l0 k1 l0 y249 true (wrap64 (x7_1 + 1)) a1_0 a1_1) = some r := by first | (rw [hy249]; with_reducible exact H) | (have H2_ := (Option.bind_some _ _).symm.trans H; rw [hy249]; with_reducible exact H2_) | (have H2_ := (Option.bind_some _ _).symm.trans H; with_reducible exact H2_) | with_reducible exact H | (rw [hy249]; exact H) | exact H
    have Ny249 := am hy249
    clear hy249
    have H' := am H
    clear H
    try go_wp2
    have n0_ := am (Kd.R_drew HO_5.out)
    have n1_ := am (Bk3 BK244.out)
    have n2_ := am (Bb3 HB.out)
    clear HO_5
    clear BK244
    clear HB
    have HO_5 := n0_
    have BK244 := n1_
    have HB := n2_
    clear n0_ n1_ n2_
    refine start_ (n := 10) (S := fun w' => True) (ds := []) spec_l02Insert.m0 (by kernel_rfl) rfl rfl trivial (fun hHeld => ?_); refine with_tabW spec_l02Insert.tab6 spec_l02Insert.bits6 (fun HT_ HW_ => ?_)
    generalize wr.drew = w10 at HO_5 BK244 HB hHeld ⊢
    refine pure_ (i := 0) (N := some 15) (v := ?_) (a' := ?_) spec_l02Insert.m1 rfl rfl zA (fun _ _ _ h => h) (Or.inl ⟨by rfl, ?_⟩) ?_ ?_
    rotate_left
    ·intro w'
     go_simp
     rfl
    rotate_left
    ·exact zP
    refine pure_ (i := 1) (N := some 16) (v := ?_) (a' := ?_) spec_l02Insert.m2 rfl rfl zA (fun _ _ _ h => h) (Or.inl ⟨by rfl, ?_⟩) ?_ ?_
    rotate_left
    ·intro w'
     go_simp
     rfl
    rotate_left
    ·exact zP
    refine pure_ (i := 2) (N := some 17) (v := ?_) (a' := ?_) spec_l02Insert.m3 rfl rfl zA (fun _ _ _ h => h) (Or.inl ⟨by rfl, ?_⟩) ?_ ?_
    rotate_left
    ·intro w'
     go_simp
     rfl
    rotate_left
    ·exact zP
    refine pure_ (i := 3) (N := some 18) (v := undef) (a' := ?_) #[o',o',o',o',z',z',z',z',z',z'] rfl rfl zA (fun _ _ _ h => h) (Or.inr ⟨by rfl, rfl⟩) ?_ ?_
    rotate_left
    ·exact zP
    refine pure_ (i := 4) (N := some 19) (v := undef) (a' := ?_) #[o',o',o',o',o',z',z',z',z',z'] rfl rfl zA (fun _ _ _ h => h) (Or.inr ⟨by rfl, rfl⟩) ?_ ?_
    rotate_left
    ·exact zP
    refine pure_ (i := 5) (N := some 20) (v := undef) (a' := ?_) #[o',o',o',o',o',o',z',z',z',z'] rfl rfl zA (fun _ _ _ h => h) (Or.inr ⟨by rfl, rfl⟩) ?_ ?_
    rotate_left
    ·exact zP
    refine pure_ (i := 6) (N := some 21) (v := undef) (a' := ?_) spec_l02Insert.m7 rfl rfl zA (fun _ _ _ h => h) (Or.inr ⟨by rfl, rfl⟩) ?_ ?_
    rotate_left
    ·exact zP
    refine pure_ (i := 7) (N := some 22) (v := undef) (a' := ?_) spec_l02Insert.m8 rfl rfl zA (fun _ _ _ h => h) (Or.inr ⟨by rfl, rfl⟩) ?_ ?_
    rotate_left
    ·exact zP
    refine pure_ (i := 8) (N := some 23) (v := undef) (a' := ?_) spec_l02Insert.m9 rfl rfl zA (fun _ _ _ h => h) (Or.inr ⟨by rfl, rfl⟩) ?_ ?_
    rotate_left
    ·exact zP
    refine pure_ (i := 9) (N := some 24) (v := ?_) (a' := ?_) spec_l02Insert.m10 rfl rfl zA (fun _ _ _ h => h) (Or.inl ⟨by rfl, ?_⟩) ?_ ?_
    rotate_left
    ·intro w'
     go_simp
     rfl
    rotate_left
    ·exact zP
    refine done_ (done_of HT_.out (by kernel_rfl)) ?_
    have p248 : 0 ≤ (x7_1 : Int) := zD
    have q248 : x7_1 < (l0.length : Int) := zD
    obtain ⟨ad248, e248, hx248_0, hx248_1⟩ := at_T66 HR0.out x7_1 p248 q248
    cases e248
    replace hx248_0 := pc HB.out hx248_0
    replace hx248_1 := pc HB.out hx248_1
    replace p248 := eq_true p248
    replace q248 := eq_true q248
    try go_wp2_with (first | ((with_reducible refine gate_builtin (b := .append) (xs := #[.tmp 29, .tmp 34]) rfl ?_); at_builtin; refine Kd.R_append k66 (w0 := w) w.heap.size rfl (.tmp 29) (.tmp 34) 29 66 (.agg #[(.int .i64 0), (.int .i64 0)]) 16 rfl Tryz.underlying29 info66 rfl (by decide) (by omega) u5 x5_1 (⟨(rd_T66 l0 x7_1).f0, (rd_T66 l0 x7_1).f1⟩ : S66) [.int .i64 ((rd_T66 l0 x7_1).f0), .int .i64 ((rd_T66 l0 x7_1).f1)] (fun k_ => k_ ≠ gb244) (fun _ => False) rfl rfl ?aP (fun _ hk => hk.elim) ?aF ?aO ?aB ?aS ?aL ?_; (case aP => exact k66_mkM _ _ _ (⟨(rd_T66 l0 x7_1).f0, (rd_T66 l0 x7_1).f1⟩ : S66)); (case aB => exact (by repeat (first | (with_reducible first | exact HB.out | apply Bb1 | apply Bb2 | apply Bb3 | refine Bb4 ?_ GE244.out) | exact HB.out))); (case aF => exact (fun k_ hk => Kd.freshB (g := gb244) (o := .cells #[.int .i64 a1_0, .int .i64 a1_1] 66 (0, 0)) (zK BK244) k_ hk)); (case aO => exact (zR HO_5)); (case aS => exact (Bb5 (by repeat (first | (with_reducible first | exact HB.out | apply Bb1 | apply Bb2 | apply Bb3 | refine Bb4 ?_ GE244.out) | exact HB.out)))); (case aL => first | (have := LMc9.out; omega) | (have h_ := Nat.le_of_lt LMc9.out; exact h_)); intro v250 w11 ho hb hg hat; rw [← Ny249.out] at ho; have n0_ := am (blk_grown (g := gb244) (o := .cells #[.int .i64 a1_0, .int .i64 a1_1] 66 (0, 0)) (zK BK244) hg (Kd.R_away HO_5.out (fun _ hk => hk))); have n1_ := am (hb); have n2_ := am (ho); clear BK244; clear HB; clear HO_5; have BK244 := n0_; have HB := n1_; have HO251 := n2_; clear n0_ n1_ n2_; clear ho hb hg hat))
    go_roundg k1
    case measure => have := HK1.out; omega
    case rel => exact ⟨(y249), (true), (wrap64 (x7_1 + 1)), zS, zS, H', ⟨by have := HK1.out; omega⟩, ⟨zR HO251⟩, ⟨zK BK244⟩, ⟨by repeat (first | (with_reducible first | exact HB.out | apply Bb1 | apply Bb2 | apply Bb3 | refine Bb4 ?_ GE244.out) | exact HB.out)⟩⟩
   replace c7 := ef c7
   subst c7
   have H1 : (if 0 ≤ x7_1 then ((spec_l02Less.f a1_0 a1_1 ((rd_T66 l0 x7_1).f0) ((rd_T66 l0 x7_1).f1)).bind fun t253 => (if t253 = true then (if x5_1.length < 8796093022208 then ((some (x5_1 ++ [(⟨a1_0, a1_1⟩ : S66)] : List (S66))).bind fun y254 => (if y254.length < 8796093022208 then (spec_l02Insert.l0 k1 l0 (y254 ++ [(⟨(rd_T66 l0 x7_1).f0, (rd_T66 l0 x7_1).f1⟩ : S66)]) true (wrap64 (x7_1 + 1)) a1_0 a1_1) else (none))) else (none)) else (if x5_1.length < 8796093022208 then (spec_l02Insert.l0 k1 l0 (x5_1 ++ [(⟨(rd_T66 l0 x7_1).f0, (rd_T66 l0 x7_1).f1⟩ : S66)]) false (wrap64 (x7_1 + 1)) a1_0 a1_1) else (none)))) else (none)) = some r := by first | (rw [if_neg (show ¬ (false = true) by decide)] at H; exact H) | rfl
   clear H
   have H := H1
   clear H1
   by_cases c12 : 0 ≤ x7_1
   rotate_left
   ·rw [if_neg c12] at H
    exact absurd H (by simp)
   rw [if_pos c12] at H
   have c12b0 : decide (0 ≤ x7_1) = true := decide_eq_true c12
   clear c12
   replace H := ob H
   obtain ⟨t253, A130, H⟩ := H
   (try dsimp only at H)
   have A13 := am A130
   clear A130
   by_cases c14 : t253 = true
   rotate_left
   ·replace c14 := ef c14
    subst c14
    have H1 : (if x5_1.length < 8796093022208 then (spec_l02Insert.l0 k1 l0 (x5_1 ++ [(⟨(rd_T66 l0 x7_1).f0, (rd_T66 l0 x7_1).f1⟩ : S66)]) false (wrap64 (x7_1 + 1)) a1_0 a1_1) else (none)) = some r := by first | (rw [if_neg (show ¬ (false = true) by decide)] at H; exact H) | rfl
    clear H
    have H := H1
    clear H1
    by_cases c22 : x5_1.length < 8796093022208
    rotate_left
    ·rw [if_neg c22] at H
     exact absurd H (by simp)
    rw [if_pos c22] at H
    have LMc22 := am c22
    clear c22
    obtain ⟨y262, hy262⟩ : ∃ y_ : List (S66), y_ = (x5_1 ++ [(⟨(rd_T66 l0 x7_1).f0, (rd_T66 l0 x7_1).f1⟩ : S66)]) := ⟨_, rfl⟩
    replace H : (spec_l02Insert.l0 k1 l0 y262 false (wrap64 (x7_1 + 1)) a1_0 a1_1) = some r := by first | (rw [hy262]; with_reducible exact H) | (have H2_ := (Option.bind_some _ _).symm.trans H; rw [hy262]; with_reducible exact H2_) | (have H2_ := (Option.bind_some _ _).symm.trans H; with_reducible exact H2_) | with_reducible exact H | (rw [hy262]; exact H) | exact H
    have Ny262 := am hy262
    clear hy262
    have H' := am H
    clear H
    try go_wp2
    have n0_ := am (Kd.R_drew HO_5.out)
    have n1_ := am (Bk3 BK244.out)
    have n2_ := am (Bb3 HB.out)
    clear HO_5
    clear BK244
    clear HB
    have HO_5 := n0_
    have BK244 := n1_
    have HB := n2_
    clear n0_ n1_ n2_
    have p252 : 0 ≤ (x7_1 : Int) := zD
    have q252 : x7_1 < (l0.length : Int) := zD
    obtain ⟨ad252, e252, hx252_0, hx252_1⟩ := at_T66 HR0.out x7_1 p252 q252
    have hw252_1 := hx252_1
    have hw252_0 := hx252_0
    cases e252
    replace hx252_0 := pc HB.out hx252_0
    replace hx252_1 := pc HB.out hx252_1
    replace p252 := eq_true p252
    replace q252 := eq_true q252
    refine start_ (n := 10) (S := fun w' => w'.cell? ⟨gb244, 0, none⟩ = some (.int .i64 a1_0) ∧ w'.cell? ⟨gb244, 1, none⟩ = some (.int .i64 a1_1) ∧ w'.cell? (ad252.add ((x7_1).toNat * 2)) = some (.int .i64 ((rd_T66 l0 x7_1).f0)) ∧ w'.cell? ⟨(ad252.add ((x7_1).toNat * 2)).block, (ad252.add ((x7_1).toNat * 2)).off + 1, none⟩ = some (.int .i64 ((rd_T66 l0 x7_1).f1))) (ds := []) spec_l02Insert.m0 (by kernel_rfl) rfl rfl ⟨(kc BK244.out 0).trans rfl, (kc BK244.out 1).trans rfl, (pc HB.out hw252_0), (pc HB.out hw252_1)⟩ (fun hHeld => ?_); refine with_tabW spec_l02Insert.tab6 spec_l02Insert.bits6 (fun HT_ HW_ => ?_)
    generalize wr.drew = w23 at HO_5 BK244 HB hx252_0 hx252_1 hHeld ⊢
    refine pure_ (i := 0) (N := some 15) (v := ?_) (a' := ?_) spec_l02Insert.m1 rfl rfl zA (fun _ _ _ h => h) (Or.inl ⟨by rfl, ?_⟩) ?_ ?_
    rotate_left
    ·intro w'
     go_simp
     rfl
    rotate_left
    ·exact zP
    refine pure_ (i := 1) (N := some 16) (v := ?_) (a' := ?_) spec_l02Insert.m2 rfl rfl zA (fun _ _ _ h => h) (Or.inl ⟨by rfl, ?_⟩) ?_ ?_
    rotate_left
    ·intro w'
     go_simp
     rfl
    rotate_left
    ·exact zP
    refine pure_ (i := 2) (N := some 17) (v := ?_) (a' := ?_) spec_l02Insert.m3 rfl rfl zA (fun _ _ _ h => h) (Or.inl ⟨by rfl, ?_⟩) ?_ ?_
    rotate_left
    ·intro w'
     go_simp
     rfl
    rotate_left
    ·exact zP
    refine pure_ (i := 4) (N := some 19) (v := ?_) (a' := ?_) spec_l02Insert.m4 rfl rfl zA (fun _ _ _ h => h) (Or.inl ⟨by rfl, ?_⟩) ?_ ?_
    rotate_left
    ·intro w'
     go_simp
     rfl
    rotate_left
    ·exact zP
    refine pure_ (i := 5) (N := some 20) (v := ?_) (a' := ?_) spec_l02Insert.m5 rfl rfl zA (fun _ _ _ h => h) (Or.inl ⟨by rfl, ?_⟩) ?_ ?_
    rotate_left
    ·intro w'
     go_simp
     rfl
    rotate_left
    ·exact zP
    refine pure_ (i := 6) (N := some 21) (v := ?_) (a' := ?_) spec_l02Insert.m6 rfl rfl zA (fun _ _ _ h => h) (Or.inl ⟨by rfl, ?_⟩) ?_ ?_
    rotate_left
    ·intro w'
     go_simp
     rfl
    rotate_left
    ·exact zP
    refine take_ (i := 3) (N := some 18) (v := ?_) (a' := ?_) spec_l02Insert.m7 rfl rfl (take_ofW HT_.out HW_.out (by kernel_rfl)) (fun _ _ _ h => h) (Or.inl ⟨by rfl, ?_⟩) hHeld ?_ ?_
    rotate_left
    ·rintro w' ⟨s0, s1, s2, s3⟩
     go_simp
     rfl
    rotate_left
    ·exact zP
    refine take_ (i := 7) (N := some 22) (v := ?_) (a' := ?_) spec_l02Insert.m8 rfl rfl (take_ofW HT_.out HW_.out (by kernel_rfl)) (fun _ _ _ h => h) (Or.inl ⟨by rfl, ?_⟩) hHeld ?_ ?_
    rotate_left
    ·rintro w' ⟨s0, s1, s2, s3⟩
     go_simp
     rfl
    rotate_left
    ·exact zP
    refine one_ (i := 8) (N := some 23) spec_l02Insert.m9 rfl rfl (one_of HT_.out (by kernel_rfl)) (by decide) (fun K hK => ?_)
    refine goes_ Tryz.func112 (by kernel_rfl) rfl #[.agg #[.int .i64 a1_0, .int .i64 a1_1], .agg #[.int .i64 ((rd_T66 l0 x7_1).f0), .int .i64 ((rd_T66 l0 x7_1).f1)]] (by rfl) rfl rfl zL ?_
    with_reducible refine (spec_l02Less.calls a1_0 a1_1 ((rd_T66 l0 x7_1).f0) ((rd_T66 l0 x7_1).f1) false _ A13.out).mono ?_
    rintro e w24 ⟨rfl, hb⟩
    refine ⟨_, rfl, ?_⟩
    have n0_ := am (Kd.R_below (zR HO_5) hb)
    have n1_ := am (Bk4 (g := gb244) (o := .cells #[.int .i64 a1_0, .int .i64 a1_1] 66 (0, 0)) (zK BK244) hb)
    have n2_ := am (Bb6 (by repeat (first | (with_reducible first | exact HB.out | apply Bb1 | apply Bb2 | apply Bb3 | refine Bb4 ?_ GE244.out) | exact HB.out)) hb)
    clear HO_5
    clear BK244
    clear HB
    have HO_5 := n0_
    have BK244 := n1_
    have HB := n2_
    clear n0_ n1_ n2_
    (try clear hb)
    (try clear hb2)
    (try clear hk)
    (try clear hi)
    refine hK.out _ _ ⟨(kc BK244.out 0).trans rfl, (kc BK244.out 1).trans rfl, (pc HB.out hw252_0), (pc HB.out hw252_1)⟩ (fun hHeld => ?_)
    clear hK K
    refine norm_ (a' := ?_) ?_ ?_
    rotate_left
    ·show Act.put _ (some 23) _ = _
     simp only [Act.put, sa, i64_w, i32_w]
     rfl
    refine pure_ (i := 9) (N := some 24) (v := ?_) (a' := ?_) spec_l02Insert.m10 rfl rfl zA (fun _ _ _ h => h) (Or.inl ⟨by rfl, ?_⟩) ?_ ?_
    rotate_left
    ·intro w'
     go_simp
     rfl
    rotate_left
    ·exact zP
    refine done_ (done_of HT_.out (by kernel_rfl)) ?_
    have p261 : 0 ≤ (x7_1 : Int) := zD
    have q261 : x7_1 < (l0.length : Int) := zD
    obtain ⟨ad261, e261, hx261_0, hx261_1⟩ := at_T66 HR0.out x7_1 p261 q261
    obtain rfl : ad252 = ad261 := (by injection e261)
    replace hx261_0 := pc HB.out hx261_0
    replace hx261_1 := pc HB.out hx261_1
    replace p261 := eq_true p261
    replace q261 := eq_true q261
    try go_wp2_with (first | ((with_reducible refine gate_builtin (b := .append) (xs := #[.tmp 29, .tmp 34]) rfl ?_); at_builtin; refine Kd.R_append k66 (w0 := w) w.heap.size rfl (.tmp 29) (.tmp 34) 29 66 (.agg #[(.int .i64 0), (.int .i64 0)]) 16 rfl Tryz.underlying29 info66 rfl (by decide) (by omega) u5 x5_1 (⟨(rd_T66 l0 x7_1).f0, (rd_T66 l0 x7_1).f1⟩ : S66) [.int .i64 ((rd_T66 l0 x7_1).f0), .int .i64 ((rd_T66 l0 x7_1).f1)] (fun k_ => k_ ≠ gb244) (fun _ => False) rfl rfl ?aP (fun _ hk => hk.elim) ?aF ?aO ?aB ?aS ?aL ?_; (case aP => exact k66_mkM _ _ _ (⟨(rd_T66 l0 x7_1).f0, (rd_T66 l0 x7_1).f1⟩ : S66)); (case aB => exact (by repeat (first | (with_reducible first | exact HB.out | apply Bb1 | apply Bb2 | apply Bb3 | refine Bb4 ?_ GE244.out) | exact HB.out))); (case aF => exact (fun k_ hk => Kd.freshB (g := gb244) (o := .cells #[.int .i64 a1_0, .int .i64 a1_1] 66 (0, 0)) (zK BK244) k_ hk)); (case aO => exact (zR HO_5)); (case aS => exact (Bb5 (by repeat (first | (with_reducible first | exact HB.out | apply Bb1 | apply Bb2 | apply Bb3 | refine Bb4 ?_ GE244.out) | exact HB.out)))); (case aL => first | (have := LMc22.out; omega) | (have h_ := Nat.le_of_lt LMc22.out; exact h_)); intro v263 w25 ho hb hg hat; rw [← Ny262.out] at ho; have n0_ := am (blk_grown (g := gb244) (o := .cells #[.int .i64 a1_0, .int .i64 a1_1] 66 (0, 0)) (zK BK244) hg (Kd.R_away HO_5.out (fun _ hk => hk))); have n1_ := am (hb); have n2_ := am (ho); clear BK244; clear HB; clear HO_5; have BK244 := n0_; have HB := n1_; have HO264 := n2_; clear n0_ n1_ n2_; clear ho hb hg hat))
    go_roundg k1
    case measure => have := HK1.out; omega
    case rel => exact ⟨(y262), (false), (wrap64 (x7_1 + 1)), zS, zS, H', ⟨by have := HK1.out; omega⟩, ⟨zR HO264⟩, ⟨zK BK244⟩, ⟨by repeat (first | (with_reducible first | exact HB.out | apply Bb1 | apply Bb2 | apply Bb3 | refine Bb4 ?_ GE244.out) | exact HB.out)⟩⟩
   subst c14
   have H1 : (if x5_1.length < 8796093022208 then ((some (x5_1 ++ [(⟨a1_0, a1_1⟩ : S66)] : List (S66))).bind fun y254 => (if y254.length < 8796093022208 then (spec_l02Insert.l0 k1 l0 (y254 ++ [(⟨(rd_T66 l0 x7_1).f0, (rd_T66 l0 x7_1).f1⟩ : S66)]) true (wrap64 (x7_1 + 1)) a1_0 a1_1) else (none))) else (none)) = some r := by first | (rw [if_pos rfl] at H; exact H) | rfl
   clear H
   have H := H1
   clear H1
   by_cases c15 : x5_1.length < 8796093022208
   rotate_left
   ·rw [if_neg c15] at H
    exact absurd H (by simp)
   rw [if_pos c15] at H
   have LMc15 := am c15
   clear c15
   obtain ⟨y254, hy254⟩ : ∃ y_ : List (S66), y_ = (x5_1 ++ [(⟨a1_0, a1_1⟩ : S66)]) := ⟨_, rfl⟩
   replace H : (if y254.length < 8796093022208 then (spec_l02Insert.l0 k1 l0 (y254 ++ [(⟨(rd_T66 l0 x7_1).f0, (rd_T66 l0 x7_1).f1⟩ : S66)]) true (wrap64 (x7_1 + 1)) a1_0 a1_1) else (none)) = some r := by first | (rw [hy254]; with_reducible exact H) | (have H2_ := (Option.bind_some _ _).symm.trans H; rw [hy254]; with_reducible exact H2_) | (have H2_ := (Option.bind_some _ _).symm.trans H; with_reducible exact H2_) | with_reducible exact H | (rw [hy254]; exact H) | exact H
   have Ny254 := am hy254
   clear hy254
   by_cases c16 : y254.length < 8796093022208
   rotate_left
   ·rw [if_neg c16] at H
    exact absurd H (by simp)
   rw [if_pos c16] at H
   have LMc16 := am c16
   clear c16
   obtain ⟨y258, hy258⟩ : ∃ y_ : List (S66), y_ = (y254 ++ [(⟨(rd_T66 l0 x7_1).f0, (rd_T66 l0 x7_1).f1⟩ : S66)]) := ⟨_, rfl⟩
   replace H : (spec_l02Insert.l0 k1 l0 y258 true (wrap64 (x7_1 + 1)) a1_0 a1_1) = some r := by first | (rw [hy258]; with_reducible exact H) | (have H2_ := (Option.bind_some _ _).symm.trans H; rw [hy258]; with_reducible exact H2_) | (have H2_ := (Option.bind_some _ _).symm.trans H; with_reducible exact H2_) | with_reducible exact H | (rw [hy258]; exact H) | exact H
   have Ny258 := am hy258
   clear hy258
   have H' := am H
   clear H
   try go_wp2
   have n0_ := am (Kd.R_drew HO_5.out)
   have n1_ := am (Bk3 BK244.out)
   have n2_ := am (Bb3 HB.out)
   clear HO_5
   clear BK244
   clear HB
   have HO_5 := n0_
   have BK244 := n1_
   have HB := n2_
   clear n0_ n1_ n2_
   have p252 : 0 ≤ (x7_1 : Int) := zD
   have q252 : x7_1 < (l0.length : Int) := zD
   obtain ⟨ad252, e252, hx252_0, hx252_1⟩ := at_T66 HR0.out x7_1 p252 q252
   have hw252_1 := hx252_1
   have hw252_0 := hx252_0
   cases e252
   replace hx252_0 := pc HB.out hx252_0
   replace hx252_1 := pc HB.out hx252_1
   replace p252 := eq_true p252
   replace q252 := eq_true q252
   refine start_ (n := 10) (S := fun w' => w'.cell? ⟨gb244, 0, none⟩ = some (.int .i64 a1_0) ∧ w'.cell? ⟨gb244, 1, none⟩ = some (.int .i64 a1_1) ∧ w'.cell? (ad252.add ((x7_1).toNat * 2)) = some (.int .i64 ((rd_T66 l0 x7_1).f0)) ∧ w'.cell? ⟨(ad252.add ((x7_1).toNat * 2)).block, (ad252.add ((x7_1).toNat * 2)).off + 1, none⟩ = some (.int .i64 ((rd_T66 l0 x7_1).f1))) (ds := []) spec_l02Insert.m0 (by kernel_rfl) rfl rfl ⟨(kc BK244.out 0).trans rfl, (kc BK244.out 1).trans rfl, (pc HB.out hw252_0), (pc HB.out hw252_1)⟩ (fun hHeld => ?_); refine with_tabW spec_l02Insert.tab6 spec_l02Insert.bits6 (fun HT_ HW_ => ?_)
   generalize wr.drew = w17 at HO_5 BK244 HB hx252_0 hx252_1 hHeld ⊢
   refine pure_ (i := 0) (N := some 15) (v := ?_) (a' := ?_) spec_l02Insert.m1 rfl rfl zA (fun _ _ _ h => h) (Or.inl ⟨by rfl, ?_⟩) ?_ ?_
   rotate_left
   ·intro w'
    go_simp
    rfl
   rotate_left
   ·exact zP
   refine pure_ (i := 1) (N := some 16) (v := ?_) (a' := ?_) spec_l02Insert.m2 rfl rfl zA (fun _ _ _ h => h) (Or.inl ⟨by rfl, ?_⟩) ?_ ?_
   rotate_left
   ·intro w'
    go_simp
    rfl
   rotate_left
   ·exact zP
   refine pure_ (i := 2) (N := some 17) (v := ?_) (a' := ?_) spec_l02Insert.m3 rfl rfl zA (fun _ _ _ h => h) (Or.inl ⟨by rfl, ?_⟩) ?_ ?_
   rotate_left
   ·intro w'
    go_simp
    rfl
   rotate_left
   ·exact zP
   refine pure_ (i := 4) (N := some 19) (v := ?_) (a' := ?_) spec_l02Insert.m4 rfl rfl zA (fun _ _ _ h => h) (Or.inl ⟨by rfl, ?_⟩) ?_ ?_
   rotate_left
   ·intro w'
    go_simp
    rfl
   rotate_left
   ·exact zP
   refine pure_ (i := 5) (N := some 20) (v := ?_) (a' := ?_) spec_l02Insert.m5 rfl rfl zA (fun _ _ _ h => h) (Or.inl ⟨by rfl, ?_⟩) ?_ ?_
   rotate_left
   ·intro w'
    go_simp
    rfl
   rotate_left
   ·exact zP
   refine pure_ (i := 6) (N := some 21) (v := ?_) (a' := ?_) spec_l02Insert.m6 rfl rfl zA (fun _ _ _ h => h) (Or.inl ⟨by rfl, ?_⟩) ?_ ?_
   rotate_left
   ·intro w'
    go_simp
    rfl
   rotate_left
   ·exact zP
   refine take_ (i := 3) (N := some 18) (v := ?_) (a' := ?_) spec_l02Insert.m7 rfl rfl (take_ofW HT_.out HW_.out (by kernel_rfl)) (fun _ _ _ h => h) (Or.inl ⟨by rfl, ?_⟩) hHeld ?_ ?_
   rotate_left
   ·rintro w' ⟨s0, s1, s2, s3⟩
    go_simp
    rfl
   rotate_left
   ·exact zP
   refine take_ (i := 7) (N := some 22) (v := ?_) (a' := ?_) spec_l02Insert.m8 rfl rfl (take_ofW HT_.out HW_.out (by kernel_rfl)) (fun _ _ _ h => h) (Or.inl ⟨by rfl, ?_⟩) hHeld ?_ ?_
   rotate_left
   ·rintro w' ⟨s0, s1, s2, s3⟩
    go_simp
    rfl
   rotate_left
   ·exact zP
   refine one_ (i := 8) (N := some 23) spec_l02Insert.m9 rfl rfl (one_of HT_.out (by kernel_rfl)) (by decide) (fun K hK => ?_)
   refine goes_ Tryz.func112 (by kernel_rfl) rfl #[.agg #[.int .i64 a1_0, .int .i64 a1_1], .agg #[.int .i64 ((rd_T66 l0 x7_1).f0), .int .i64 ((rd_T66 l0 x7_1).f1)]] (by rfl) rfl rfl zL ?_
   with_reducible refine (spec_l02Less.calls a1_0 a1_1 ((rd_T66 l0 x7_1).f0) ((rd_T66 l0 x7_1).f1) true _ A13.out).mono ?_
   rintro e w18 ⟨rfl, hb⟩
   refine ⟨_, rfl, ?_⟩
   have n0_ := am (Kd.R_below (zR HO_5) hb)
   have n1_ := am (Bk4 (g := gb244) (o := .cells #[.int .i64 a1_0, .int .i64 a1_1] 66 (0, 0)) (zK BK244) hb)
   have n2_ := am (Bb6 (by repeat (first | (with_reducible first | exact HB.out | apply Bb1 | apply Bb2 | apply Bb3 | refine Bb4 ?_ GE244.out) | exact HB.out)) hb)
   clear HO_5
   clear BK244
   clear HB
   have HO_5 := n0_
   have BK244 := n1_
   have HB := n2_
   clear n0_ n1_ n2_
   (try clear hb)
   (try clear hb2)
   (try clear hk)
   (try clear hi)
   refine hK.out _ _ ⟨(kc BK244.out 0).trans rfl, (kc BK244.out 1).trans rfl, (pc HB.out hw252_0), (pc HB.out hw252_1)⟩ (fun hHeld => ?_)
   clear hK K
   refine norm_ (a' := ?_) ?_ ?_
   rotate_left
   ·show Act.put _ (some 23) _ = _
    simp only [Act.put, sa, i64_w, i32_w]
    rfl
   refine pure_ (i := 9) (N := some 24) (v := ?_) (a' := ?_) spec_l02Insert.m10 rfl rfl zA (fun _ _ _ h => h) (Or.inl ⟨by rfl, ?_⟩) ?_ ?_
   rotate_left
   ·intro w'
    go_simp
    rfl
   rotate_left
   ·exact zP
   refine done_ (done_of HT_.out (by kernel_rfl)) ?_
   have hcz19_0 : w18.cell? ⟨gb244, 0, none⟩ = some (.int .i64 a1_0) := (kc BK244.out 0).trans rfl
   have hcz19_1 : w18.cell? ⟨gb244, 1, none⟩ = some (.int .i64 a1_1) := (kc BK244.out 1).trans rfl
   have hfz19_0 := kf BK244.out 0
   have hfz19_1 := kf BK244.out 1
   try go_wp2_with (first | ((with_reducible refine gate_builtin (b := .append) (xs := #[.tmp 25, .tmp 27]) rfl ?_); at_builtin; refine Kd.R_append k66 (w0 := w) w.heap.size rfl (.tmp 25) (.tmp 27) 29 66 (.agg #[(.int .i64 0), (.int .i64 0)]) 16 rfl Tryz.underlying29 info66 rfl (by decide) (by omega) u5 x5_1 (⟨a1_0, a1_1⟩ : S66) [.int .i64 a1_0, .int .i64 a1_1] (fun k_ => k_ ≠ gb244) (fun _ => False) rfl rfl ?aP (fun _ hk => hk.elim) ?aF ?aO ?aB ?aS ?aL ?_; (case aP => exact k66_mkM _ _ _ (⟨a1_0, a1_1⟩ : S66)); (case aB => exact (by repeat (first | (with_reducible first | exact HB.out | apply Bb1 | apply Bb2 | apply Bb3 | refine Bb4 ?_ GE244.out) | exact HB.out))); (case aF => exact (fun k_ hk => Kd.freshB (g := gb244) (o := .cells #[.int .i64 a1_0, .int .i64 a1_1] 66 (0, 0)) (zK BK244) k_ hk)); (case aO => exact (zR HO_5)); (case aS => exact (Bb5 (by repeat (first | (with_reducible first | exact HB.out | apply Bb1 | apply Bb2 | apply Bb3 | refine Bb4 ?_ GE244.out) | exact HB.out)))); (case aL => first | (have := LMc15.out; omega) | (have h_ := Nat.le_of_lt LMc15.out; exact h_)); intro v255 w20 ho hb hg hat; rw [← Ny254.out] at ho; have n0_ := am (blk_grown (g := gb244) (o := .cells #[.int .i64 a1_0, .int .i64 a1_1] 66 (0, 0)) (zK BK244) hg (Kd.R_away HO_5.out (fun _ hk => hk))); have n1_ := am (hb); have n2_ := am (ho); clear BK244; clear HB; clear HO_5; have BK244 := n0_; have HB := n1_; have HO256 := n2_; clear n0_ n1_ n2_; clear ho hb hg hat; have p257 : 0 ≤ (x7_1 : Int) := zD; have q257 : x7_1 < (l0.length : Int) := zD; obtain ⟨ad257, e257, hx257_0, hx257_1⟩ := at_T66 HR0.out x7_1 p257 q257; obtain rfl : ad252 = ad257 := (by injection e257); replace hx257_0 := pc HB.out hx257_0; replace hx257_1 := pc HB.out hx257_1; replace p257 := eq_true p257; replace q257 := eq_true q257) | ((with_reducible refine gate_builtin (b := .append) (xs := #[.tmp 29, .tmp 34]) rfl ?_); at_builtin; refine Kd.R_append k66 (w0 := w) w.heap.size rfl (.tmp 29) (.tmp 34) 29 66 (.agg #[(.int .i64 0), (.int .i64 0)]) 16 rfl Tryz.underlying29 info66 rfl (by decide) (by omega) v255 y254 (⟨(rd_T66 l0 x7_1).f0, (rd_T66 l0 x7_1).f1⟩ : S66) [.int .i64 ((rd_T66 l0 x7_1).f0), .int .i64 ((rd_T66 l0 x7_1).f1)] (fun k_ => k_ ≠ gb244) (fun _ => False) rfl rfl ?aP (fun _ hk => hk.elim) ?aF ?aO ?aB ?aS ?aL ?_; (case aP => exact k66_mkM _ _ _ (⟨(rd_T66 l0 x7_1).f0, (rd_T66 l0 x7_1).f1⟩ : S66)); (case aB => exact (by repeat (first | (with_reducible first | exact HB.out | apply Bb1 | apply Bb2 | apply Bb3 | refine Bb4 ?_ GE244.out) | exact HB.out))); (case aF => exact (fun k_ hk => Kd.freshB (g := gb244) (o := .cells #[.int .i64 a1_0, .int .i64 a1_1] 66 (0, 0)) (zK BK244) k_ hk)); (case aO => exact (zR HO256)); (case aS => exact (Bb5 (by repeat (first | (with_reducible first | exact HB.out | apply Bb1 | apply Bb2 | apply Bb3 | refine Bb4 ?_ GE244.out) | exact HB.out)))); (case aL => first | (have := LMc16.out; omega) | (have h_ := Nat.le_of_lt LMc16.out; exact h_)); intro v259 w21 ho hb hg hat; rw [← Ny258.out] at ho; have n0_ := am (blk_grown (g := gb244) (o := .cells #[.int .i64 a1_0, .int .i64 a1_1] 66 (0, 0)) (zK BK244) hg (Kd.R_away HO256.out (fun _ hk => hk))); have n1_ := am (hb); have n2_ := am (ho); clear BK244; clear HB; clear HO256; have BK244 := n0_; have HB := n1_; have HO260 := n2_; clear n0_ n1_ n2_; clear ho hb hg hat))
   go_roundg k1
   case measure => have := HK1.out; omega
   case rel => exact ⟨(y258), (true), (wrap64 (x7_1 + 1)), zS, zS, H', ⟨by have := HK1.out; omega⟩, ⟨zR HO260⟩, ⟨zK BK244⟩, ⟨by repeat (first | (with_reducible first | exact HB.out | apply Bb1 | apply Bb2 | apply Bb3 | refine Bb4 ?_ GE244.out) | exact HB.out)⟩⟩

/-! ### spec_l02Sort: function 118 -/
def spec_l02Sort.l0 : Nat → List (S66) → List (S66) → Int → Option ((List (S66)))
 | 0, _, _, _ => none
 | k + 1, x0, x3, x4 => if x4 < (x0.length : Int) then (if 0 ≤ x4 then ((spec_l02Insert.f k x3 ((rd_T66 x0 x4).f0) ((rd_T66 x0 x4).f1)).bind fun t272 => (spec_l02Sort.l0 k x0 t272 (wrap64 (x4 + 1)))) else (none)) else (some x3)
def spec_l02Sort.f (k : Nat) (l0 : List (S66)) : Option ((List (S66))) := spec_l02Sort.l0 k l0 (([] : List (S66))) 0
theorem spec_l02Sort.mono_l : ∀ k, (∀ y0 y1 y2, LeO (spec_l02Sort.l0 k y0 y1 y2) (spec_l02Sort.l0 (k + 1) y0 y1 y2))
 | 0 => fun _ _ _ r h => by simp [spec_l02Sort.l0] at h
 | k + 1 => by
  have ih0 := spec_l02Sort.mono_l k
  ·intro y0 y1 y2
   unfold spec_l02Sort.l0
   with_reducible repeat' first | exact ih0 _ _ _ | exact spec_l02Insert.mono _ _ _ _ | exact LeO.refl _ | exact LeO.none _ | refine LeO.ite ?_ ?_ | refine LeO.bind ?_ (fun _ => ?_)
theorem spec_l02Sort.mono : ∀ a0 k, LeO (spec_l02Sort.f k a0) (spec_l02Sort.f (k + 1) a0) := by
 intro a0 k
 have ih0 := spec_l02Sort.mono_l k
 unfold spec_l02Sort.f
 with_reducible repeat' first | exact ih0 _ _ _ | exact spec_l02Insert.mono _ _ _ _ | exact LeO.refl _ | exact LeO.none _ | refine LeO.ite ?_ ?_ | refine LeO.bind ?_ (fun _ => ?_)
set_option maxHeartbeats 8000000 in
set_option maxRecDepth 100000 in
theorem spec_l02Sort.calls (k : Nat) (A0 : Option Addr) (c0 : Nat) (l0 : List (S66)) (r : List (S66)) (w : World) (hr0 : Kd.C k66 w A0 l0.length l0) (hc0 : l0.length ≤ c0) (h : spec_l02Sort.f k l0 = some r) :
  Calls Tryz.prog 118 #[.slice A0 l0.length c0] w fun e w' => ∃ v0_ : Value, e = .returned (v0_) ∧ Kd.R k66 66 w' w.heap.size (fun _ => True) v0_ r ∧ Below w.heap.size w w' := by
 have hu66 := Tryz.underlying66
 have HR0 := am hr0
 have HC0 := am hc0
 clear hr0 hc0
 have HB := am (Below.refl w.heap.size w)
 have H : (spec_l02Sort.l0 k l0 (([] : List (S66))) 0) = some r := h
 clear h
 obtain ⟨y268, hy268⟩ : ∃ y_ : List (S66), y_ = (([] : List (S66))) := ⟨_, rfl⟩
 replace H : (spec_l02Sort.l0 k l0 y268 0) = some r := by first | (rw [hy268]; with_reducible exact H) | (have H2_ := (Option.bind_some _ _).symm.trans H; rw [hy268]; with_reducible exact H2_) | (have H2_ := (Option.bind_some _ _).symm.trans H; with_reducible exact H2_) | with_reducible exact H | (rw [hy268]; exact H) | exact H
 have Ny268 := am hy268
 clear hy268
 have H' := am H
 clear H
 go_enter Tryz.func118, Tryz.ntmps118
 go_wp2_with (first | ((with_reducible refine gate_dst (N := 5) rfl ?_); refine Kd.R_lit k66 _ 66 ?hg (N := 5) ?hd (xs := ([] : List (S66))) (inner := []) (ok := fun _ => True) (okp := fun _ => True) ?hr ?hp (fun _ hk => hk) trivial (Below.refl _ _) (Nat.le_refl _) (by simp) ?_; (case hd => rfl); (case hg => rfl); (case hr => first | (go_simp; done) | (go_simp; rfl)); (case hp => exact (Reps.none _ _)); intro v269 w2 ho3 hb hg_ hnew_; clear hg_ hnew_; (first | rw [← Ny268.out] at ho3 | (simp only [Int.reduceToNat] at ho3; rw [← Ny268.out] at ho3)); have n0_ := am (Kd.R_lower ho3 (Bb5 zB)); have n1_ := am (Bb6 zB hb); clear HB; have HO270 := n0_; have HB := n1_; clear n0_ n1_; clear hb ho3))
 go_loopg [3, 4] k (fun kq v3 v4 w' => ∃ (x3_1 : List (S66)) (x4_1 : Int), v4 = .int .i64 x4_1 ∧ Aside0 (spec_l02Sort.l0 kq l0 x3_1 x4_1 = some r) ∧ Aside0 (kq ≤ k) ∧ Aside0 (Kd.R k66 66 w' w.heap.size (fun _ => True) v3 x3_1) ∧ Aside0 (Below w.heap.size w w'))
 case atStart => exact ⟨(y268), (0), zS, H', ⟨Nat.le_refl _⟩, ⟨zR HO270⟩, ⟨zB⟩⟩
 case round =>
  clear H'
  try clear c1
  try clear p2
  obtain ⟨x3_1, x4_1, rfl, HA, HK1, HO_3, HB⟩ := hrel
  cases gk with
  | zero => exact absurd HA.out (by simp [spec_l02Sort.l0])
  | succ k1 =>
   have H := HA.out
   clear HA
   simp only [spec_l02Sort.l0] at H
   by_cases c4 : x4_1 < (l0.length : Int)
   rotate_left
   ·rw [if_neg c4] at H
    have c4b0 : decide (x4_1 < (l0.length : Int)) = false := decide_eq_false c4
    clear c4
    obtain rfl := oi H
    go_wp2
    go_ret
    exact ⟨_, zE, by (with_reducible repeat (first | apply Kd.R_alloc | apply Kd.R_drewN | apply Kd.R_drew)); exact HO_3.out, zB⟩
   rw [if_pos c4] at H
   have c4b0 : decide (x4_1 < (l0.length : Int)) = true := decide_eq_true c4
   clear c4
   by_cases c5 : 0 ≤ x4_1
   rotate_left
   ·rw [if_neg c5] at H
    exact absurd H (by simp)
   rw [if_pos c5] at H
   have c5b0 : decide (0 ≤ x4_1) = true := decide_eq_true c5
   clear c5
   replace H := ob H
   obtain ⟨t272, A60, H⟩ := H
   (try dsimp only at H)
   have A6 := am A60
   clear A60
   have H' := am H
   clear H
   have p271 : 0 ≤ (x4_1 : Int) := zD
   have q271 : x4_1 < (l0.length : Int) := zD
   obtain ⟨ad271, e271, hx271_0, hx271_1⟩ := at_T66 HR0.out x4_1 p271 q271
   cases e271
   replace hx271_0 := pc HB.out hx271_0
   replace hx271_1 := pc HB.out hx271_1
   replace p271 := eq_true p271
   replace q271 := eq_true q271
   obtain ⟨Ao7, co7, eo7⟩ := Kd.R_slice HO_3.out
   subst eo7
   go_wp2_with (first | ((with_reducible refine gate_callee (f := 136) rfl ?_); refine goesL_ (some 17) rfl rfl Tryz.func136 (by kernel_rfl) rfl #[.slice Ao7 x3_1.length co7, .agg #[.int .i64 ((rd_T66 l0 x4_1).f0), .int .i64 ((rd_T66 l0 x4_1).f1)]] rfl zL ?_; (with_reducible refine (spec_l02Insert.calls k1 _ _ x3_1 ((rd_T66 l0 x4_1).f0) ((rd_T66 l0 x4_1).f1) t272 _ ?side1 ?side2 A6.out).mono ?_); (case side1 => repeat (first | exact (Kd.R_reads' HO_3.out).2.2 | (with_reducible refine Kd.C_alloc ?_ _) | (with_reducible refine Kd.C_drewN ?_ _) | (with_reducible refine Kd.C_drew ?_))); (case side2 => exact (Kd.R_reads' HO_3.out).2.1); rintro e w8 ⟨v273, rfl, ho0, hb⟩; refine ⟨_, rfl, ?_⟩; have n0_ := am (Kd.R_elder' (zR HO_3) (Kd.R_base ho0) hb); have n1_ := am (Kd.R_lower (Kd.R_new' ho0 (Kd.R_lt (zR HO_3))) (Bb5 zB)); have n2_ := am (Bb6 zB hb); clear HO_3; clear HB; have HO_3 := n0_; have HO274 := n1_; have HB := n2_; clear n0_ n1_ n2_; (try clear hb); (try clear hb2); (try clear hk); (try clear hi); (try clear ho0)))
   go_roundg k1
   case measure => have := HK1.out; omega
   case rel => exact ⟨(t272), (wrap64 (x4_1 + 1)), zS, H', ⟨by have := HK1.out; omega⟩, ⟨by (with_reducible repeat (first | apply Kd.R_alloc | apply Kd.R_drewN | apply Kd.R_drew)); exact Kd.R_mono HO274.out (fun _ hk => trivial)⟩, ⟨zB⟩⟩

/-! ### spec_l03Form: function 80 -/
def spec_l03Form.l0 : Nat → List (S66) → Int → List (S66) → Int → Option ((List (S66)))
 | 0, _, _, _, _ => none
 | k + 1, x0, x1, x5, x6 => if x6 < (x0.length : Int) then (if 0 ≤ x6 then ((spec_l03Turn.f k ((rd_T66 x0 x6).f0) ((rd_T66 x0 x6).f1) x1).bind fun bt279 => (if x5.length < 8796093022208 then (spec_l03Form.l0 k x0 x1 (x5 ++ [(⟨bt279.1, bt279.2⟩ : S66)]) (wrap64 (x6 + 1))) else (none))) else (none)) else ((spec_l02Sort.f k x5).bind fun t284 => ((spec_l02Normal.f k t284).bind fun t287 => (some t287)))
def spec_l03Form.f (k : Nat) (l0 : List (S66)) (a1 : Int) : Option ((List (S66))) := spec_l03Form.l0 k l0 a1 (([] : List (S66))) 0
theorem spec_l03Form.mono_l : ∀ k, (∀ y0 y1 y2 y3, LeO (spec_l03Form.l0 k y0 y1 y2 y3) (spec_l03Form.l0 (k + 1) y0 y1 y2 y3))
 | 0 => fun _ _ _ _ r h => by simp [spec_l03Form.l0] at h
 | k + 1 => by
  have ih0 := spec_l03Form.mono_l k
  ·intro y0 y1 y2 y3
   unfold spec_l03Form.l0
   with_reducible repeat' first | exact ih0 _ _ _ _ | exact spec_l02Normal.mono _ _ | exact spec_l02Sort.mono _ _ | exact spec_l03Turn.mono _ _ _ _ | exact LeO.refl _ | exact LeO.none _ | refine LeO.ite ?_ ?_ | refine LeO.bind ?_ (fun _ => ?_)
theorem spec_l03Form.mono : ∀ a0 a1 k, LeO (spec_l03Form.f k a0 a1) (spec_l03Form.f (k + 1) a0 a1) := by
 intro a0 a1 k
 have ih0 := spec_l03Form.mono_l k
 unfold spec_l03Form.f
 with_reducible repeat' first | exact ih0 _ _ _ _ | exact spec_l02Normal.mono _ _ | exact spec_l02Sort.mono _ _ | exact spec_l03Turn.mono _ _ _ _ | exact LeO.refl _ | exact LeO.none _ | refine LeO.ite ?_ ?_ | refine LeO.bind ?_ (fun _ => ?_)
set_option maxHeartbeats 8000000 in
set_option maxRecDepth 100000 in
theorem spec_l03Form.calls (k : Nat) (A0 : Option Addr) (c0 : Nat) (l0 : List (S66)) (a1 : Int) (r : List (S66)) (w : World) (hr0 : Kd.C k66 w A0 l0.length l0) (hc0 : l0.length ≤ c0) (h : spec_l03Form.f k l0 a1 = some r) :
  Calls Tryz.prog 80 #[.slice A0 l0.length c0, .int .i64 a1] w fun e w' => ∃ v0_ : Value, e = .returned (v0_) ∧ Kd.R k66 66 w' w.heap.size (fun _ => True) v0_ r ∧ Below w.heap.size w w' := by
 have hu66 := Tryz.underlying66
 have HR0 := am hr0
 have HC0 := am hc0
 clear hr0 hc0
 have HB := am (Below.refl w.heap.size w)
 have H : (spec_l03Form.l0 k l0 a1 (([] : List (S66))) 0) = some r := h
 clear h
 obtain ⟨y275, hy275⟩ : ∃ y_ : List (S66), y_ = (([] : List (S66))) := ⟨_, rfl⟩
 replace H : (spec_l03Form.l0 k l0 a1 y275 0) = some r := by first | (rw [hy275]; with_reducible exact H) | (have H2_ := (Option.bind_some _ _).symm.trans H; rw [hy275]; with_reducible exact H2_) | (have H2_ := (Option.bind_some _ _).symm.trans H; with_reducible exact H2_) | with_reducible exact H | (rw [hy275]; exact H) | exact H
 have Ny275 := am hy275
 clear hy275
 have H' := am H
 clear H
 go_enter Tryz.func80, Tryz.ntmps80
 go_wp2_with (first | ((with_reducible refine gate_dst (N := 7) rfl ?_); refine Kd.R_lit k66 _ 66 ?hg (N := 7) ?hd (xs := ([] : List (S66))) (inner := []) (ok := fun _ => True) (okp := fun _ => True) ?hr ?hp (fun _ hk => hk) trivial (Below.refl _ _) (Nat.le_refl _) (by simp) ?_; (case hd => rfl); (case hg => rfl); (case hr => first | (go_simp; done) | (go_simp; rfl)); (case hp => exact (Reps.none _ _)); intro v276 w3 ho4 hb hg_ hnew_; clear hg_ hnew_; (first | rw [← Ny275.out] at ho4 | (simp only [Int.reduceToNat] at ho4; rw [← Ny275.out] at ho4)); have n0_ := am (Kd.R_lower ho4 (Bb5 zB)); have n1_ := am (Bb6 zB hb); clear HB; have HO277 := n0_; have HB := n1_; clear n0_ n1_; clear hb ho4))
 go_loopg [5, 6] k (fun kq v5 v6 w' => ∃ (x5_1 : List (S66)) (x6_1 : Int), v6 = .int .i64 x6_1 ∧ Aside0 (spec_l03Form.l0 kq l0 a1 x5_1 x6_1 = some r) ∧ Aside0 (kq ≤ k) ∧ Aside0 (Kd.R k66 66 w' w.heap.size (fun _ => True) v5 x5_1) ∧ Aside0 (Below w.heap.size w w'))
 case atStart => exact ⟨(y275), (0), zS, H', ⟨Nat.le_refl _⟩, ⟨zR HO277⟩, ⟨zB⟩⟩
 case round =>
  clear H'
  try clear p2
  obtain ⟨x5_1, x6_1, rfl, HA, HK1, HO_5, HB⟩ := hrel
  cases gk with
  | zero => exact absurd HA.out (by simp [spec_l03Form.l0])
  | succ k1 =>
   have H := HA.out
   clear HA
   simp only [spec_l03Form.l0] at H
   by_cases c5 : x6_1 < (l0.length : Int)
   rotate_left
   ·rw [if_neg c5] at H
    have c5b0 : decide (x6_1 < (l0.length : Int)) = false := decide_eq_false c5
    clear c5
    replace H := ob H
    obtain ⟨t284, A110, H⟩ := H
    (try dsimp only at H)
    have A11 := am A110
    clear A110
    replace H := ob H
    obtain ⟨t287, A120, H⟩ := H
    replace H : (some t287) = some r := H
    have A12 := am A120
    clear A120
    obtain rfl := oi H
    obtain ⟨Ao13, co13, eo13⟩ := Kd.R_slice HO_5.out
    subst eo13
    go_wp2_with (first | ((with_reducible refine gate_callee (f := 118) rfl ?_); refine goesL_ (some 24) rfl rfl Tryz.func118 (by kernel_rfl) rfl #[.slice Ao13 x5_1.length co13] rfl zL ?_; (with_reducible refine (spec_l02Sort.calls k1 _ _ x5_1 t284 _ ?side1 ?side2 A11.out).mono ?_); (case side1 => repeat (first | exact (Kd.R_reads' HO_5.out).2.2 | (with_reducible refine Kd.C_alloc ?_ _) | (with_reducible refine Kd.C_drewN ?_ _) | (with_reducible refine Kd.C_drew ?_))); (case side2 => exact (Kd.R_reads' HO_5.out).2.1); rintro e w14 ⟨v285, rfl, ho0, hb⟩; refine ⟨_, rfl, ?_⟩; have n0_ := am (Kd.R_elder' (zR HO_5) (Kd.R_base ho0) hb); have n1_ := am (Kd.R_lower (Kd.R_new' ho0 (Kd.R_lt (zR HO_5))) (Bb5 zB)); have n2_ := am (Bb6 zB hb); clear HO_5; clear HB; have HO_5 := n0_; have HO286 := n1_; have HB := n2_; clear n0_ n1_ n2_; (try clear hb); (try clear hb2); (try clear hk); (try clear hi); (try clear ho0); obtain ⟨Ao15, co15, eo15⟩ := Kd.R_slice HO286.out; subst eo15) | ((with_reducible refine gate_callee (f := 117) rfl ?_); refine goesL_ (some 25) rfl rfl Tryz.func117 (by kernel_rfl) rfl #[.slice Ao15 t284.length co15] rfl zL ?_; (with_reducible refine (spec_l02Normal.calls k1 _ _ t284 t287 _ ?side1 ?side2 A12.out).mono ?_); (case side1 => repeat (first | exact (Kd.R_reads' HO286.out).2.2 | (with_reducible refine Kd.C_alloc ?_ _) | (with_reducible refine Kd.C_drewN ?_ _) | (with_reducible refine Kd.C_drew ?_))); (case side2 => exact (Kd.R_reads' HO286.out).2.1); rintro e w16 ⟨v288, rfl, ho0, hb⟩; refine ⟨_, rfl, ?_⟩; have n0_ := am (Kd.R_elder' (zR HO_5) (Kd.R_base ho0) hb); have n1_ := am (Kd.R_elder' (zR HO286) (Kd.R_base ho0) hb); have n2_ := am (Kd.R_lower (Kd.R_new' (Kd.R_new' ho0 (Kd.R_lt (zR HO_5))) (Kd.R_lt (zR HO286))) (Bb5 zB)); have n3_ := am (Bb6 zB hb); clear HO_5; clear HO286; clear HB; have HO_5 := n0_; have HO286 := n1_; have HO289 := n2_; have HB := n3_; clear n0_ n1_ n2_ n3_; (try clear hb); (try clear hb2); (try clear hk); (try clear hi); (try clear ho0)))
    go_ret
    exact ⟨_, zE, by (with_reducible repeat (first | apply Kd.R_alloc | apply Kd.R_drewN | apply Kd.R_drew)); exact Kd.R_mono HO289.out (fun _ hk => trivial), zB⟩
   rw [if_pos c5] at H
   have c5b0 : decide (x6_1 < (l0.length : Int)) = true := decide_eq_true c5
   clear c5
   by_cases c6 : 0 ≤ x6_1
   rotate_left
   ·rw [if_neg c6] at H
    exact absurd H (by simp)
   rw [if_pos c6] at H
   have c6b0 : decide (0 ≤ x6_1) = true := decide_eq_true c6
   clear c6
   replace H := ob H
   obtain ⟨⟨t279, t280⟩, A70, H⟩ := H
   (try dsimp only at H)
   have A7 := am A70
   clear A70
   by_cases c8 : x5_1.length < 8796093022208
   rotate_left
   ·rw [if_neg c8] at H
    exact absurd H (by simp)
   rw [if_pos c8] at H
   have LMc8 := am c8
   clear c8
   obtain ⟨y281, hy281⟩ : ∃ y_ : List (S66), y_ = (x5_1 ++ [(⟨t279, t280⟩ : S66)]) := ⟨_, rfl⟩
   replace H : (spec_l03Form.l0 k1 l0 a1 y281 (wrap64 (x6_1 + 1))) = some r := by first | (rw [hy281]; with_reducible exact H) | (have H2_ := (Option.bind_some _ _).symm.trans H; rw [hy281]; with_reducible exact H2_) | (have H2_ := (Option.bind_some _ _).symm.trans H; with_reducible exact H2_) | with_reducible exact H | (rw [hy281]; exact H) | exact H
   have Ny281 := am hy281
   clear hy281
   have H' := am H
   clear H
   have p278 : 0 ≤ (x6_1 : Int) := zD
   have q278 : x6_1 < (l0.length : Int) := zD
   obtain ⟨ad278, e278, hx278_0, hx278_1⟩ := at_T66 HR0.out x6_1 p278 q278
   cases e278
   replace hx278_0 := pc HB.out hx278_0
   replace hx278_1 := pc HB.out hx278_1
   replace p278 := eq_true p278
   replace q278 := eq_true q278
   go_wp2_with (first | ((with_reducible refine gate_callee (f := 116) rfl ?_); refine goesL_ (some 20) rfl rfl Tryz.func116 (by kernel_rfl) rfl #[.agg #[.int .i64 ((rd_T66 l0 x6_1).f0), .int .i64 ((rd_T66 l0 x6_1).f1)], .int .i64 a1] rfl zL ?_; (with_reducible refine (spec_l03Turn.calls k1 ((rd_T66 l0 x6_1).f0) ((rd_T66 l0 x6_1).f1) a1 t279 t280 _ A7.out).mono ?_); rintro e w9 ⟨rfl, hb⟩; refine ⟨_, rfl, ?_⟩; have n0_ := am (Kd.R_below (zR HO_5) hb); have n1_ := am (Bb6 zB hb); clear HO_5; clear HB; have HO_5 := n0_; have HB := n1_; clear n0_ n1_; (try clear hb); (try clear hb2); (try clear hk); (try clear hi)) | ((with_reducible refine gate_builtin (b := .append) (xs := #[.tmp 14, .tmp 21]) rfl ?_); at_builtin; refine Kd.R_append k66 (w0 := w) w.heap.size rfl (.tmp 14) (.tmp 21) 29 66 (.agg #[(.int .i64 0), (.int .i64 0)]) 16 rfl Tryz.underlying29 info66 rfl (by decide) (by omega) u5 x5_1 (⟨t279, t280⟩ : S66) [.int .i64 t279, .int .i64 t280] (fun _ => True) (fun _ => False) rfl rfl ?aP (fun _ hk => hk.elim) ?aF ?aO ?aB ?aS ?aL ?_; (case aP => exact k66_mkM _ _ _ (⟨t279, t280⟩ : S66)); (case aB => exact zB); (case aF => exact (fun _ _ => trivial)); (case aO => exact (zR HO_5)); (case aS => exact (Bb5 zB)); (case aL => first | (have := LMc8.out; omega) | (have h_ := Nat.le_of_lt LMc8.out; exact h_)); intro v282 w10 ho hb hg hat; rw [← Ny281.out] at ho; have n0_ := am (hb); have n1_ := am (ho); clear HB; clear HO_5; have HB := n0_; have HO283 := n1_; clear n0_ n1_; clear ho hb hg hat))
   go_roundg k1
   case measure => have := HK1.out; omega
   case rel => exact ⟨(y281), (wrap64 (x6_1 + 1)), zS, H', ⟨by have := HK1.out; omega⟩, ⟨zR HO283⟩, ⟨zB⟩⟩

/-! ### spec_l03Forms: function 63 -/
def spec_l03Forms.l0 : Nat → List (S66) → Int → List (List (S66)) → Int → Option ((List (List (S66))))
 | 0, _, _, _, _ => none
 | k + 1, x0, x1, x5, x6 => if x6 < x1 then ((spec_l03Form.f k x0 x6).bind fun t293 => ((spec_l03Add.f k x5 t293).bind fun t296 => (spec_l03Forms.l0 k x0 x1 t296 (wrap64 (x6 + 1))))) else (some x5)
def spec_l03Forms.f (k : Nat) (l0 : List (S66)) (a1 : Int) : Option ((List (List (S66)))) := spec_l03Forms.l0 k l0 a1 (([] : List (List (S66)))) 0
theorem spec_l03Forms.mono_l : ∀ k, (∀ y0 y1 y2 y3, LeO (spec_l03Forms.l0 k y0 y1 y2 y3) (spec_l03Forms.l0 (k + 1) y0 y1 y2 y3))
 | 0 => fun _ _ _ _ r h => by simp [spec_l03Forms.l0] at h
 | k + 1 => by
  have ih0 := spec_l03Forms.mono_l k
  ·intro y0 y1 y2 y3
   unfold spec_l03Forms.l0
   with_reducible repeat' first | exact ih0 _ _ _ _ | exact spec_l03Add.mono _ _ _ | exact spec_l03Form.mono _ _ _ | exact LeO.refl _ | exact LeO.none _ | refine LeO.ite ?_ ?_ | refine LeO.bind ?_ (fun _ => ?_)
theorem spec_l03Forms.mono : ∀ a0 a1 k, LeO (spec_l03Forms.f k a0 a1) (spec_l03Forms.f (k + 1) a0 a1) := by
 intro a0 a1 k
 have ih0 := spec_l03Forms.mono_l k
 unfold spec_l03Forms.f
 with_reducible repeat' first | exact ih0 _ _ _ _ | exact spec_l03Add.mono _ _ _ | exact spec_l03Form.mono _ _ _ | exact LeO.refl _ | exact LeO.none _ | refine LeO.ite ?_ ?_ | refine LeO.bind ?_ (fun _ => ?_)
set_option maxHeartbeats 8000000 in
set_option maxRecDepth 100000 in
theorem spec_l03Forms.calls (k : Nat) (A0 : Option Addr) (c0 : Nat) (l0 : List (S66)) (a1 : Int) (r : List (List (S66))) (w : World) (hr0 : Kd.C k66 w A0 l0.length l0) (hc0 : l0.length ≤ c0) (h : spec_l03Forms.f k l0 a1 = some r) :
  Calls Tryz.prog 63 #[.slice A0 l0.length c0, .int .i64 a1] w fun e w' => ∃ v0_ : Value, e = .returned (v0_) ∧ Kd.V (Kd.slice 66 k66) 29 w' w.heap.size (fun k_ => (w.heap.size ≤ k_)) v0_ r ∧ Below w.heap.size w w' := by
 have HR0 := am hr0
 have HC0 := am hc0
 clear hr0 hc0
 have HB := am (Below.refl w.heap.size w)
 have H : (spec_l03Forms.l0 k l0 a1 (([] : List (List (S66)))) 0) = some r := h
 clear h
 obtain ⟨y290, hy290⟩ : ∃ y_ : List (List (S66)), y_ = (([] : List (List (S66)))) := ⟨_, rfl⟩
 replace H : (spec_l03Forms.l0 k l0 a1 y290 0) = some r := by first | (rw [hy290]; with_reducible exact H) | (have H2_ := (Option.bind_some _ _).symm.trans H; rw [hy290]; with_reducible exact H2_) | (have H2_ := (Option.bind_some _ _).symm.trans H; with_reducible exact H2_) | with_reducible exact H | (rw [hy290]; exact H) | exact H
 have Ny290 := am hy290
 clear hy290
 have H' := am H
 clear H
 go_enter Tryz.func63, Tryz.ntmps63
 go_wp2_with (first | ((with_reducible refine gate_dst (N := 7) rfl ?_); refine Kd.S_lit (Kd.slice 66 k66) _ 29 ?hg (N := 7) ?hd (xs := ([] : List (List (S66)))) (inner := []) (ok := fun _ => True) (okp := fun _ => True) ?hr ?hp (fun _ hk => hk) trivial (Below.refl _ _) (Nat.le_refl _) (by simp) ?_; (case hd => rfl); (case hg => rfl); (case hr => first | (go_simp; done) | (go_simp; rfl)); (case hp => exact (Reps.none _ _)); intro v291 w3 ho4 hb hg_ hnew_; clear hg_ hnew_; (first | rw [← Ny290.out] at ho4 | (simp only [Int.reduceToNat] at ho4; rw [← Ny290.out] at ho4)); have n0_ := am (Kd.S_lower (Kd.S_newM (M := fun k_ => (w.heap.size ≤ k_)) ho4 (Bb5 zB) (fun k_ h_ => h_)) (Bb5 zB)); have n1_ := am (Bb6 zB hb); clear HB; have HO292 := n0_; have HB := n1_; clear n0_ n1_; clear hb ho4))
 go_loopg [5, 6] k (fun kq v5 v6 w' => ∃ (x5_1 : List (List (S66))) (x6_1 : Int), v6 = .int .i64 x6_1 ∧ Aside0 (spec_l03Forms.l0 kq l0 a1 x5_1 x6_1 = some r) ∧ Aside0 (kq ≤ k) ∧ Aside0 (Kd.V (Kd.slice 66 k66) 29 w' w.heap.size (fun k_ => (w.heap.size ≤ k_)) v5 x5_1) ∧ Aside0 (Below w.heap.size w w'))
 case atStart => exact ⟨(y290), (0), zS, H', ⟨Nat.le_refl _⟩, ⟨Kd.S_V (by (with_reducible repeat (first | apply Kd.S_alloc | apply Kd.S_drewN | apply Kd.S_drew)); exact Kd.S_mono HO292.out (fun _ hk => hk.1))⟩, ⟨zB⟩⟩
 case round =>
  clear H'
  try clear p2
  obtain ⟨x5_1, x6_1, rfl, HA, HK1, HO_5, HB⟩ := hrel
  cases gk with
  | zero => exact absurd HA.out (by simp [spec_l03Forms.l0])
  | succ k1 =>
   have H := HA.out
   clear HA
   simp only [spec_l03Forms.l0] at H
   by_cases c5 : x6_1 < a1
   rotate_left
   ·rw [if_neg c5] at H
    have c5b0 : decide (x6_1 < a1) = false := decide_eq_false c5
    clear c5
    obtain rfl := oi H
    go_wp2
    go_ret
    exact ⟨_, zE, by (with_reducible repeat (first | apply Kd.V_alloc | apply Kd.V_drewN | apply Kd.V_drew)); exact HO_5.out, zB⟩
   rw [if_pos c5] at H
   have c5b0 : decide (x6_1 < a1) = true := decide_eq_true c5
   clear c5
   replace H := ob H
   obtain ⟨t293, A60, H⟩ := H
   (try dsimp only at H)
   have A6 := am A60
   clear A60
   replace H := ob H
   obtain ⟨t296, A70, H⟩ := H
   (try dsimp only at H)
   have A7 := am A70
   clear A70
   have H' := am H
   clear H
   go_wp2_with (first | ((with_reducible refine gate_callee (f := 80) rfl ?_); refine goesL_ (some 16) rfl rfl Tryz.func80 (by kernel_rfl) rfl #[.slice A0 l0.length c0, .int .i64 x6_1] rfl zL ?_; (with_reducible refine (spec_l03Form.calls k1 _ _ l0 x6_1 t293 _ ?side1 ?side2 A6.out).mono ?_); (case side1 => repeat (first | exact (Kd.C_below HR0.out HB.out) | (with_reducible refine Kd.C_alloc ?_ _) | (with_reducible refine Kd.C_drewN ?_ _) | (with_reducible refine Kd.C_drew ?_))); (case side2 => exact HC0.out); rintro e w8 ⟨v294, rfl, ho0, hb⟩; refine ⟨_, rfl, ?_⟩; have n0_ := am (Kd.V_elder' (by (with_reducible repeat (first | apply Kd.V_alloc | apply Kd.V_drewN | apply Kd.V_drew)); exact HO_5.out) (Kd.R_base ho0) hb); have n1_ := am (Kd.R_lower (Kd.R_newM (M := fun k_ => (w.heap.size ≤ k_)) ho0 (Bb5 zB) (fun k_ h_ => h_)) (Bb5 zB)); have n2_ := am (Bb6 zB hb); clear HO_5; clear HB; have HO_5 := n0_; have HO295 := n1_; have HB := n2_; clear n0_ n1_ n2_; (try clear hb); (try clear hb2); (try clear hk); (try clear hi); (try clear ho0); obtain ⟨Ao9, co9, eo9⟩ := Kd.V_slice HO_5.out; subst eo9; obtain ⟨Ao10, co10, eo10⟩ := Kd.R_slice HO295.out; subst eo10) | ((with_reducible refine gate_callee (f := 79) rfl ?_); refine goesL_ (some 17) rfl rfl Tryz.func79 (by kernel_rfl) rfl #[.slice Ao9 x5_1.length co9, .slice Ao10 t293.length co10] rfl zL ?_; (with_reducible refine (spec_l03Add.calls k1 (fun k_ => ((w.heap.size ≤ k_) ∧ some k_ ≠ (.slice Ao10 t293.length co10 : Value).ownBlock)) _ _ x5_1 (fun k_ => some k_ = (.slice Ao10 t293.length co10 : Value).ownBlock) _ _ t293 t296 _ ?side1 ?side2 A7.out).mono ?_); (case side1 => exact HO_5.out); (case side2 => exact Kd.R_V (Kd.R_tight rfl (HO295.out))); rintro e w11 ⟨v297, rfl, ho0, hb⟩; refine ⟨_, rfl, ?_⟩; have n0_ := am (Kd.V_below (by (with_reducible repeat (first | apply Kd.V_alloc | apply Kd.V_drewN | apply Kd.V_drew)); exact HO_5.out) hb); have n1_ := am (Kd.R_below (zR HO295) hb); have n2_ := am (Kd.V_lower (Kd.V_mono (ok' := fun k_ => (w.heap.size ≤ k_)) ho0 (fun k_ hk_ => Or.elim hk_ (fun hs_ => Or.elim hs_ (fun hs_ => hs_.1) (fun hs_ => ((HO295.out).1 k_ hs_.symm).1)) (fun hn_ => (Nat.le_trans (Bb5 zB) hn_)))) (Bb5 zB)); have n3_ := am (Bb6 zB hb); clear HO_5; clear HO295; clear HB; have HO_5 := n0_; have HO295 := n1_; have HO298 := n2_; have HB := n3_; clear n0_ n1_ n2_ n3_; (try clear hb); (try clear hb2); (try clear hk); (try clear hi); (try clear ho0)))
   go_roundg k1
   case measure => have := HK1.out; omega
   case rel => exact ⟨(t296), (wrap64 (x6_1 + 1)), zS, H', ⟨by have := HK1.out; omega⟩, ⟨by (with_reducible repeat (first | apply Kd.V_alloc | apply Kd.V_drewN | apply Kd.V_drew)); exact HO298.out⟩, ⟨zB⟩⟩

/-! ### spec_l11Forms: function 41 -/
def spec_l11Forms.f (k : Nat) (l0_0 : List (S66)) (a0_1 : Int) (a0_2 : Bool) : Option ((List (List (S66)))) := if a0_2 = true then ((spec_l03Forms.f k l0_0 8).bind fun t300 => (some t300)) else ((spec_l03Forms.f k l0_0 4).bind fun t303 => (some t303))
theorem spec_l11Forms.mono : ∀ a0 a1 a2 k, LeO (spec_l11Forms.f k a0 a1 a2) (spec_l11Forms.f (k + 1) a0 a1 a2) := by
 intro a0 a1 a2 k
 unfold spec_l11Forms.f
 with_reducible repeat' first | exact spec_l03Forms.mono _ _ _ | exact LeO.refl _ | exact LeO.none _ | refine LeO.ite ?_ ?_ | refine LeO.bind ?_ (fun _ => ?_)
set_option maxHeartbeats 8000000 in
set_option maxRecDepth 100000 in
theorem spec_l11Forms.calls (k : Nat) (A0_0 : Option Addr) (c0_0 : Nat) (l0_0 : List (S66)) (a0_1 : Int) (a0_2 : Bool) (r : List (List (S66))) (w : World) (hr0_0 : Kd.C k66 w A0_0 l0_0.length l0_0) (hc0_0 : l0_0.length ≤ c0_0) (h : spec_l11Forms.f k l0_0 a0_1 a0_2 = some r) :
  Calls Tryz.prog 41 #[.agg #[.slice A0_0 l0_0.length c0_0, .int .i64 a0_1, .bool a0_2]] w fun e w' => ∃ v0_ : Value, e = .returned (v0_) ∧ Kd.V (Kd.slice 66 k66) 29 w' w.heap.size (fun k_ => (w.heap.size ≤ k_)) v0_ r ∧ Below w.heap.size w w' := by
 have hu31 := Tryz.underlying31
 have HR0_0 := am hr0_0
 have HC0_0 := am hc0_0
 clear hr0_0 hc0_0
 have HB := am (Below.refl w.heap.size w)
 have H : (if a0_2 = true then ((spec_l03Forms.f k l0_0 8).bind fun t300 => (some t300)) else ((spec_l03Forms.f k l0_0 4).bind fun t303 => (some t303))) = some r := h
 clear h
 by_cases c2 : a0_2 = true
 ·subst c2
  have H1 : ((spec_l03Forms.f k l0_0 8).bind fun t300 => (some t300)) = some r := by first | (rw [if_pos rfl] at H; exact H) | rfl
  clear H
  have H := H1
  clear H1
  replace H := ob H
  obtain ⟨t300, A30, H⟩ := H
  replace H : (some t300) = some r := H
  have A3 := am A30
  clear A30
  obtain rfl := oi H
  go_enter Tryz.func41, Tryz.ntmps41
  go_wp2_with (first | ((with_reducible refine gate_dst (N := 1) rfl ?_); refine box_event ?hg (N := 1) ?hd (cs := #[.slice A0_0 l0_0.length c0_0, .int .i64 a0_1, .bool true]) (t := 31) ?hr ?_; (case hd => rfl); (case hg => rfl); (case hr => first | (go_simp; done) | (go_simp; rfl)); intro gb299 hg w4 hbox hb; have n0_ := am (Bb6 zB hb); have n1_ := am (hbox); have n2_ := am ((by rw [hg]; exact (Bb5 zB) : w.heap.size ≤ gb299)); have n3_ := n2_; clear HB; have HB := n0_; have BK299 := n1_; have GW299 := n2_; have GE299 := n3_; clear n0_ n1_ n2_ n3_; clear hb hbox hg; have hcz5_0 : w4.cell? ⟨gb299, 0, none⟩ = some (.slice A0_0 l0_0.length c0_0) := (kc BK299.out 0).trans rfl; have hcz5_1 : w4.cell? ⟨gb299, 1, none⟩ = some (.int .i64 a0_1) := (kc BK299.out 1).trans rfl; have hcz5_2 : w4.cell? ⟨gb299, 2, none⟩ = some (.bool true) := (kc BK299.out 2).trans rfl; have hfz5_0 := kf BK299.out 0; have hfz5_1 := kf BK299.out 1; have hfz5_2 := kf BK299.out 2) | ((with_reducible refine gate_callee (f := 63) rfl ?_); refine goesL_ (some 7) rfl rfl Tryz.func63 (by kernel_rfl) rfl #[.slice A0_0 l0_0.length c0_0, .int .i64 8] rfl zL ?_; (with_reducible refine (spec_l03Forms.calls k _ _ l0_0 8 t300 _ ?side1 ?side2 A3.out).mono ?_); (case side1 => repeat (first | exact (Kd.C_below HR0_0.out HB.out) | (with_reducible refine Kd.C_alloc ?_ _) | (with_reducible refine Kd.C_drewN ?_ _) | (with_reducible refine Kd.C_drew ?_))); (case side2 => exact HC0_0.out); rintro e w6 ⟨v301, rfl, ho0, hb⟩; refine ⟨_, rfl, ?_⟩; have n0_ := am (Kd.V_lower (Kd.V_mono (ok' := fun k_ => (w.heap.size ≤ k_) ∧ k_ ≠ gb299) ho0 (fun k_ hk_ => ⟨(Nat.le_trans (Bb5 (by repeat (first | (with_reducible first | exact HB.out | apply Bb1 | apply Bb2 | apply Bb3 | refine Bb4 ?_ GE299.out) | exact HB.out))) hk_), (Kd.freshB (g := gb299) (o := .cells #[.slice A0_0 l0_0.length c0_0, .int .i64 a0_1, .bool true] 31 (0, 0)) (zK BK299) k_ hk_)⟩)) (Bb5 (by repeat (first | (with_reducible first | exact HB.out | apply Bb1 | apply Bb2 | apply Bb3 | refine Bb4 ?_ GE299.out) | exact HB.out)))); have n1_ := am (Bk4 (g := gb299) (o := .cells #[.slice A0_0 l0_0.length c0_0, .int .i64 a0_1, .bool true] 31 (0, 0)) (zK BK299) hb); have n2_ := am (Bb6 (by repeat (first | (with_reducible first | exact HB.out | apply Bb1 | apply Bb2 | apply Bb3 | refine Bb4 ?_ GE299.out) | exact HB.out)) hb); clear BK299; clear HB; have HO302 := n0_; have BK299 := n1_; have HB := n2_; clear n0_ n1_ n2_; (try clear hb); (try clear hb2); (try clear hk); (try clear hi); (try clear ho0)))
  go_ret
  exact ⟨_, zE, by (with_reducible repeat (first | apply Kd.V_alloc | apply Kd.V_drewN | apply Kd.V_drew)); exact Kd.V_mono HO302.out (fun _ hk => hk.1), by repeat (first | (with_reducible first | exact HB.out | apply Bb1 | apply Bb2 | apply Bb3 | refine Bb4 ?_ GE299.out) | exact HB.out)⟩
 replace c2 := ef c2
 subst c2
 have H1 : ((spec_l03Forms.f k l0_0 4).bind fun t303 => (some t303)) = some r := by first | (rw [if_neg (show ¬ (false = true) by decide)] at H; exact H) | rfl
 clear H
 have H := H1
 clear H1
 replace H := ob H
 obtain ⟨t303, A70, H⟩ := H
 replace H : (some t303) = some r := H
 have A7 := am A70
 clear A70
 obtain rfl := oi H
 go_enter Tryz.func41, Tryz.ntmps41
 go_wp2_with (first | ((with_reducible refine gate_dst (N := 1) rfl ?_); refine box_event ?hg (N := 1) ?hd (cs := #[.slice A0_0 l0_0.length c0_0, .int .i64 a0_1, .bool false]) (t := 31) ?hr ?_; (case hd => rfl); (case hg => rfl); (case hr => first | (go_simp; done) | (go_simp; rfl)); intro gb299 hg w8 hbox hb; have n0_ := am (Bb6 zB hb); have n1_ := am (hbox); have n2_ := am ((by rw [hg]; exact (Bb5 zB) : w.heap.size ≤ gb299)); have n3_ := n2_; clear HB; have HB := n0_; have BK299 := n1_; have GW299 := n2_; have GE299 := n3_; clear n0_ n1_ n2_ n3_; clear hb hbox hg; have hcz9_0 : w8.cell? ⟨gb299, 0, none⟩ = some (.slice A0_0 l0_0.length c0_0) := (kc BK299.out 0).trans rfl; have hcz9_1 : w8.cell? ⟨gb299, 1, none⟩ = some (.int .i64 a0_1) := (kc BK299.out 1).trans rfl; have hcz9_2 : w8.cell? ⟨gb299, 2, none⟩ = some (.bool false) := (kc BK299.out 2).trans rfl; have hfz9_0 := kf BK299.out 0; have hfz9_1 := kf BK299.out 1; have hfz9_2 := kf BK299.out 2) | ((with_reducible refine gate_callee (f := 63) rfl ?_); refine goesL_ (some 10) rfl rfl Tryz.func63 (by kernel_rfl) rfl #[.slice A0_0 l0_0.length c0_0, .int .i64 4] rfl zL ?_; (with_reducible refine (spec_l03Forms.calls k _ _ l0_0 4 t303 _ ?side1 ?side2 A7.out).mono ?_); (case side1 => repeat (first | exact (Kd.C_below HR0_0.out HB.out) | (with_reducible refine Kd.C_alloc ?_ _) | (with_reducible refine Kd.C_drewN ?_ _) | (with_reducible refine Kd.C_drew ?_))); (case side2 => exact HC0_0.out); rintro e w10 ⟨v304, rfl, ho0, hb⟩; refine ⟨_, rfl, ?_⟩; have n0_ := am (Kd.V_lower (Kd.V_mono (ok' := fun k_ => (w.heap.size ≤ k_) ∧ k_ ≠ gb299) ho0 (fun k_ hk_ => ⟨(Nat.le_trans (Bb5 (by repeat (first | (with_reducible first | exact HB.out | apply Bb1 | apply Bb2 | apply Bb3 | refine Bb4 ?_ GE299.out) | exact HB.out))) hk_), (Kd.freshB (g := gb299) (o := .cells #[.slice A0_0 l0_0.length c0_0, .int .i64 a0_1, .bool false] 31 (0, 0)) (zK BK299) k_ hk_)⟩)) (Bb5 (by repeat (first | (with_reducible first | exact HB.out | apply Bb1 | apply Bb2 | apply Bb3 | refine Bb4 ?_ GE299.out) | exact HB.out)))); have n1_ := am (Bk4 (g := gb299) (o := .cells #[.slice A0_0 l0_0.length c0_0, .int .i64 a0_1, .bool false] 31 (0, 0)) (zK BK299) hb); have n2_ := am (Bb6 (by repeat (first | (with_reducible first | exact HB.out | apply Bb1 | apply Bb2 | apply Bb3 | refine Bb4 ?_ GE299.out) | exact HB.out)) hb); clear BK299; clear HB; have HO305 := n0_; have BK299 := n1_; have HB := n2_; clear n0_ n1_ n2_; (try clear hb); (try clear hb2); (try clear hk); (try clear hi); (try clear ho0)))
 go_ret
 exact ⟨_, zE, by (with_reducible repeat (first | apply Kd.V_alloc | apply Kd.V_drewN | apply Kd.V_drew)); exact Kd.V_mono HO305.out (fun _ hk => hk.1), by repeat (first | (with_reducible first | exact HB.out | apply Bb1 | apply Bb2 | apply Bb3 | refine Bb4 ?_ GE299.out) | exact HB.out)⟩

/-! ### spec_l01Mod: function 42 -/
def spec_l01Mod.f (a0 : Int) (a1 : Int) : Option (Int) := if a1 = 0 then (none) else (some (Int.tmod (wrap64 ((Int.tmod a0 a1) + a1)) a1))
set_option maxHeartbeats 8000000 in
set_option maxRecDepth 100000 in
theorem spec_l01Mod.calls (a0 : Int) (a1 : Int) (r : Int) (w : World) (h : spec_l01Mod.f a0 a1 = some r) :
  Calls Tryz.prog 42 #[.int .i64 a0, .int .i64 a1] w fun e w' => e = .returned (.int .i64 r) ∧ Drawn0 w w' := by
 have H : (if a1 = 0 then (none) else (some (Int.tmod (wrap64 ((Int.tmod a0 a1) + a1)) a1))) = some r := h
 clear h
 by_cases c3 : a1 = 0
 ·rw [if_pos c3] at H
  exact absurd H (by simp)
 rw [if_neg c3] at H
 have c3b0 : (a1 == 0) = false := beq_eq_false_iff_ne.mpr c3
 have c3b1 : (a1 != 0) = true := bne_iff_ne.mpr c3
 obtain rfl := oi H
 go_enter Tryz.func42, Tryz.ntmps42
 go_wp2
 go_ret
 exact ⟨by first | rfl | (simp; done) | (simp [*]; done), by repeat (first | exact Drawn0.refl _ | apply Drawn0.step)⟩

end Go.Proofs.YtbphiipcnjelbaaGreat.Q
