/- Written by a program of this session (wip/tools/pp.py) out of the translation, with the kit's printer. -/
import Derived.Test.YtjgnlakgojookaaQ0
import Derived.Test.YtjgnlakgojookaaQ5
namespace Go.Proofs.Ytjgnlakgojookaa.Q
open Go.RowKit Go.Proofs.YtjgnlakgojookaaW.PrintWords Go.Proofs.YtjgnlakgojookaaW.PrintLast Go.Proofs.YtjgnlakgojookaaW.PrintMore
attribute [local go_sem] max2_int min2_int max_two min_two max_three min_three max_four min_four
set_option linter.unusedVariables false
set_option linter.unusedSimpArgs false

/-! ### spec_l09Move: function 77 -/
def spec_l09Move.l0 : Nat → List (S71) → List (S71) → Int → Int → Int → Int → Option ((List (S71)))
 | 0, _, _, _, _, _, _ => none
 | k + 1, x0, x5, x6, x248000, x248001, x248002 => if x6 < (x0.length : Int) then (if 0 ≤ x6 then ((spec_l09Add.f ((rd_T71 x0 x6).f0) ((rd_T71 x0 x6).f1) ((rd_T71 x0 x6).f2) x248000 x248001 x248002).bind fun bt252 => (if x5.length < 5864062014805 then (spec_l09Move.l0 k x0 (x5 ++ [(⟨bt252.1, bt252.2.1, bt252.2.2⟩ : S71)]) (wrap64 (x6 + 1)) x248000 x248001 x248002) else (none))) else (none)) else (some x5)
def spec_l09Move.f (k : Nat) (l0 : List (S71)) (a1_0 : Int) (a1_1 : Int) (a1_2 : Int) : Option ((List (S71))) := spec_l09Move.l0 k l0 (([] : List (S71))) 0 a1_0 a1_1 a1_2
theorem spec_l09Move.mono_l : ∀ k, (∀ y0 y1 y2 y3 y4 y5, LeO (spec_l09Move.l0 k y0 y1 y2 y3 y4 y5) (spec_l09Move.l0 (k + 1) y0 y1 y2 y3 y4 y5))
 | 0 => fun _ _ _ _ _ _ r h => by simp [spec_l09Move.l0] at h
 | k + 1 => by
  have ih0 := spec_l09Move.mono_l k
  ·intro y0 y1 y2 y3 y4 y5
   unfold spec_l09Move.l0
   repeat' first
   | (with_reducible exact ih0 _ _ _ _ _ _)
   | (with_reducible exact LeO.refl _)
   | (with_reducible exact LeO.none _)
   | (with_reducible refine LeO.ite ?_ ?_)
   | (with_reducible refine LeO.bind ?_ (fun _ => ?_))
   | exact ih0 _ _ _ _ _ _
   | exact LeO.none _
   | refine LeO.ite ?_ ?_
   | refine LeO.bind ?_ (fun _ => ?_)
theorem spec_l09Move.mono : ∀ a0 a1 a2 a3 k, LeO (spec_l09Move.f k a0 a1 a2 a3) (spec_l09Move.f (k + 1) a0 a1 a2 a3) := by
 intro a0 a1 a2 a3 k
 have ih0 := spec_l09Move.mono_l k
 unfold spec_l09Move.f
 repeat' first
   | (with_reducible exact ih0 _ _ _ _ _ _)
   | (with_reducible exact LeO.refl _)
   | (with_reducible exact LeO.none _)
   | (with_reducible refine LeO.ite ?_ ?_)
   | (with_reducible refine LeO.bind ?_ (fun _ => ?_))
   | exact ih0 _ _ _ _ _ _
   | exact LeO.none _
   | refine LeO.ite ?_ ?_
   | refine LeO.bind ?_ (fun _ => ?_)
def spec_l09Move.T5 : Bool × List (List Nat × List Nat) := (true, [([], []), ([], []), ([], []), ([1, 2], [1, 2]), ([3], [3]), ([], []), ([4, 5], [4, 5]), ([6], [6]), ([0, 7, 6], [0, 7]), ([8, 8, 0, 1, 2, 3, 4, 5, 6, 7, 8], [0, 8])])
def spec_l09Move.B5 : List Nat := [0, 0, 0, 6, 14, 0, 62, 126, 255, 511]
theorem spec_l09Move.tab5 : rtab .any (opsOf Try.f77 5) = spec_l09Move.T5 := by kernel_rfl
theorem spec_l09Move.bits5 : waitsOk spec_l09Move.T5.2 spec_l09Move.B5 = true := by kernel_rfl
set_option maxHeartbeats 8000000 in
set_option maxRecDepth 100000 in
theorem spec_l09Move.calls (k : Nat) (A0 : Option Addr) (c0 : Nat) (l0 : List (S71)) (a1_0 : Int) (a1_1 : Int) (a1_2 : Int) (r : List (S71)) (w : World) (hr0 : Kd.C k71 w A0 l0.length l0) (hc0 : l0.length ≤ c0) (h : spec_l09Move.f k l0 a1_0 a1_1 a1_2 = some r) :
  Calls Try.prog 77 #[.slice A0 l0.length c0, .agg #[.int .i64 a1_0, .int .i64 a1_1, .int .i64 a1_2]] w fun e w' => ∃ v0_ : Value, e = .returned (v0_) ∧ Kd.R k71 71 w' w.heap.size (fun _ => True) v0_ r ∧ Below w.heap.size w w' := by
 have hu71 := Try.underlying71
 have HR0 := am hr0
 have HC0 := am hc0
 clear hr0 hc0
 have HB := am (Below.refl w.heap.size w)
 have H : (spec_l09Move.l0 k l0 (([] : List (S71))) 0 a1_0 a1_1 a1_2) = some r := h
 clear h
 obtain ⟨y248, hy248⟩ : ∃ y_ : List (S71), y_ = (([] : List (S71))) := ⟨_, rfl⟩
 replace H : (spec_l09Move.l0 k l0 y248 0 a1_0 a1_1 a1_2) = some r := by first | (rw [hy248]; with_reducible exact H) | (have H2_ := (Option.bind_some _ _).symm.trans H; rw [hy248]; with_reducible exact H2_) | (have H2_ := (Option.bind_some _ _).symm.trans H; with_reducible exact H2_) | with_reducible exact H | (rw [hy248]; exact H) | exact H
 have Ny248 := am hy248
 clear hy248
 have H' := am H
 clear H
 go_enter Try.func77, Try.ntmps77
 go_wp2_with (first | ((with_reducible refine gate_dst (N := 3) rfl ?_); refine box_event ?hg (N := 3) ?hd (cs := #[.int .i64 a1_0, .int .i64 a1_1, .int .i64 a1_2]) (t := 71) ?hr ?_; (case hd => rfl); (case hg => rfl); (case hr => first | (go_simp; done) | (go_simp; rfl)); intro gb247 hg w3 hbox hb; have n0_ := am (Bb6 zB hb); have n1_ := am (hbox); have n2_ := am ((by rw [hg]; exact (Bb5 zB) : w.heap.size ≤ gb247)); have n3_ := n2_; clear HB; have HB := n0_; have BK247 := n1_; have GW247 := n2_; have GE247 := n3_; clear n0_ n1_ n2_ n3_; clear hb hbox hg) | ((with_reducible refine gate_dst (N := 7) rfl ?_); refine Kd.R_lit k71 _ 71 ?hg (N := 7) ?hd (xs := ([] : List (S71))) (inner := []) (ok := fun _ => True) (okp := fun _ => True) ?hr ?hp (fun _ hk => hk) trivial (Below.refl _ _) (Nat.le_refl _) (by simp) ?_; (case hd => rfl); (case hg => rfl); (case hr => first | (go_simp; done) | (go_simp; rfl)); (case hp => exact (Reps.none _ _)); intro v249 w4 ho5 hb hg_ hnew_; clear hg_ hnew_; (first | rw [← Ny248.out] at ho5 | (simp only [Int.reduceToNat] at ho5; rw [← Ny248.out] at ho5)); have n0_ := am (Kd.R_lower (Kd.R_newB ho5 (g := gb247) (o := .cells #[.int .i64 a1_0, .int .i64 a1_1, .int .i64 a1_2] 71 (0, 0)) (zK BK247)) (Bb5 (by repeat (first | (with_reducible first | exact HB.out | apply Bb1 | apply Bb2 | apply Bb3 | refine Bb4 ?_ GE247.out) | exact HB.out)))); have n1_ := am (Bk4 (g := gb247) (o := .cells #[.int .i64 a1_0, .int .i64 a1_1, .int .i64 a1_2] 71 (0, 0)) (zK BK247) hb); have n2_ := am (Bb6 (by repeat (first | (with_reducible first | exact HB.out | apply Bb1 | apply Bb2 | apply Bb3 | refine Bb4 ?_ GE247.out) | exact HB.out)) hb); clear BK247; clear HB; have HO250 := n0_; have BK247 := n1_; have HB := n2_; clear n0_ n1_ n2_; clear hb ho5))
 go_loopg [5, 6] k (fun kq v5 v6 w' => ∃ (x5_1 : List (S71)) (x6_1 : Int), v6 = .int .i64 x6_1 ∧ Aside0 (spec_l09Move.l0 kq l0 x5_1 x6_1 a1_0 a1_1 a1_2 = some r) ∧ Aside0 (kq ≤ k) ∧ Aside0 (Kd.R k71 71 w' w.heap.size (fun k_ => k_ ≠ gb247) v5 x5_1) ∧ Aside0 (w'.heap[gb247]? = some (.cells #[.int .i64 a1_0, .int .i64 a1_1, .int .i64 a1_2] 71 (0, 0))) ∧ Aside0 (Below w.heap.size w w'))
 case atStart => exact ⟨(y248), (0), zS, H', ⟨Nat.le_refl _⟩, ⟨by (with_reducible repeat (first | apply Kd.R_alloc | apply Kd.R_drewN | apply Kd.R_drew)); exact Kd.R_mono HO250.out (fun _ hk => hk.2)⟩, ⟨zK BK247⟩, ⟨by repeat (first | (with_reducible first | exact HB.out | apply Bb1 | apply Bb2 | apply Bb3 | refine Bb4 ?_ GE247.out) | exact HB.out)⟩⟩
 case round =>
  clear H'
  try clear p2
  obtain ⟨x5_1, x6_1, rfl, HA, HK1, HO_5, BK247, HB⟩ := hrel
  cases gk with
  | zero => exact absurd HA.out (by simp [spec_l09Move.l0])
  | succ k1 =>
   have H := HA.out
   clear HA
   simp only [spec_l09Move.l0] at H
   by_cases c6 : x6_1 < (l0.length : Int)
   rotate_left
   ·rw [if_neg c6] at H
    have c6b0 : decide (x6_1 < (l0.length : Int)) = false := decide_eq_false c6
    clear c6
    obtain rfl := oi H
    go_wp2
    go_ret
    exact ⟨_, zE, by (with_reducible repeat (first | apply Kd.R_alloc | apply Kd.R_drewN | apply Kd.R_drew)); exact Kd.R_mono HO_5.out (fun _ hk => trivial), by repeat (first | (with_reducible first | exact HB.out | apply Bb1 | apply Bb2 | apply Bb3 | refine Bb4 ?_ GE247.out) | exact HB.out)⟩
   rw [if_pos c6] at H
   have c6b0 : decide (x6_1 < (l0.length : Int)) = true := decide_eq_true c6
   clear c6
   by_cases c7 : 0 ≤ x6_1
   rotate_left
   ·rw [if_neg c7] at H
    exact absurd H (by simp)
   rw [if_pos c7] at H
   have c7b0 : decide (0 ≤ x6_1) = true := decide_eq_true c7
   clear c7
   replace H := ob H
   obtain ⟨⟨t252, t253, t254⟩, A80, H⟩ := H
   (try dsimp only at H)
   have A8 := am A80
   clear A80
   by_cases c9 : x5_1.length < 5864062014805
   rotate_left
   ·rw [if_neg c9] at H
    exact absurd H (by simp)
   rw [if_pos c9] at H
   have LMc9 := am c9
   clear c9
   obtain ⟨y255, hy255⟩ : ∃ y_ : List (S71), y_ = (x5_1 ++ [(⟨t252, t253, t254⟩ : S71)]) := ⟨_, rfl⟩
   replace H : (spec_l09Move.l0 k1 l0 y255 (wrap64 (x6_1 + 1)) a1_0 a1_1 a1_2) = some r := by first | (rw [hy255]; with_reducible exact H) | (have H2_ := (Option.bind_some _ _).symm.trans H; rw [hy255]; with_reducible exact H2_) | (have H2_ := (Option.bind_some _ _).symm.trans H; with_reducible exact H2_) | with_reducible exact H | (rw [hy255]; exact H) | exact H
   have Ny255 := am hy255
   clear hy255
   have H' := am H
   clear H
   try go_wp2
   have n0_ := am (Kd.R_drew HO_5.out)
   have n1_ := am (Bk3 BK247.out)
   have n2_ := am (Bb3 HB.out)
   clear HO_5
   clear BK247
   clear HB
   have HO_5 := n0_
   have BK247 := n1_
   have HB := n2_
   clear n0_ n1_ n2_
   have p251 : 0 ≤ (x6_1 : Int) := zD
   have q251 : x6_1 < (l0.length : Int) := zD
   obtain ⟨ad251, e251, hx251_0, hx251_1, hx251_2⟩ := at_T71 HR0.out x6_1 p251 q251
   have hw251_2 := hx251_2
   have hw251_1 := hx251_1
   have hw251_0 := hx251_0
   cases e251
   replace hx251_0 := pc HB.out hx251_0
   replace hx251_1 := pc HB.out hx251_1
   replace hx251_2 := pc HB.out hx251_2
   replace p251 := eq_true p251
   replace q251 := eq_true q251
   refine start_ (n := 10) (S := fun w' => w'.cell? ⟨gb247, 0, none⟩ = some (.int .i64 a1_0) ∧ w'.cell? ⟨gb247, 1, none⟩ = some (.int .i64 a1_1) ∧ w'.cell? ⟨gb247, 2, none⟩ = some (.int .i64 a1_2) ∧ w'.cell? (ad251.add ((x6_1).toNat * 3)) = some (.int .i64 ((rd_T71 l0 x6_1).f0)) ∧ w'.cell? ⟨(ad251.add ((x6_1).toNat * 3)).block, (ad251.add ((x6_1).toNat * 3)).off + 1, none⟩ = some (.int .i64 ((rd_T71 l0 x6_1).f1)) ∧ w'.cell? ⟨(ad251.add ((x6_1).toNat * 3)).block, (ad251.add ((x6_1).toNat * 3)).off + 2, none⟩ = some (.int .i64 ((rd_T71 l0 x6_1).f2))) (ds := []) #[z',z',z',z',z',z',z',z',z',z'] (by kernel_rfl) rfl rfl ⟨(kc BK247.out 0).trans rfl, (kc BK247.out 1).trans rfl, (kc BK247.out 2).trans rfl, (pc HB.out hw251_0), (pc HB.out hw251_1), (pc HB.out hw251_2)⟩ (fun hHeld => ?_); refine with_tabW spec_l09Move.tab5 spec_l09Move.bits5 (fun HT_ HW_ => ?_)
   generalize wr.drew = w10 at HO_5 BK247 HB hx251_0 hx251_1 hx251_2 hHeld ⊢
   refine pure_ (i := 0) (N := some 14) (v := ?_) (a' := ?_) #[o',z',z',z',z',z',z',z',z',z'] rfl rfl zA (fun _ _ _ h => h) (Or.inl ⟨by rfl, ?_⟩) ?_ ?_
   rotate_left
   ·intro w'
    go_simp
    with_reducible rfl
   rotate_left
   ·exact zP
   refine pure_ (i := 1) (N := some 15) (v := ?_) (a' := ?_) #[o',o',z',z',z',z',z',z',z',z'] rfl rfl zA (fun _ _ _ h => h) (Or.inl ⟨by rfl, ?_⟩) ?_ ?_
   rotate_left
   ·intro w'
    go_simp
    with_reducible rfl
   rotate_left
   ·exact zP
   refine pure_ (i := 2) (N := some 16) (v := ?_) (a' := ?_) #[o',o',o',z',z',z',z',z',z',z'] rfl rfl zA (fun _ _ _ h => h) (Or.inl ⟨by rfl, ?_⟩) ?_ ?_
   rotate_left
   ·intro w'
    go_simp
    with_reducible rfl
   rotate_left
   ·exact zP
   refine pure_ (i := 3) (N := some 17) (v := ?_) (a' := ?_) #[o',o',o',o',z',z',z',z',z',z'] rfl rfl zA (fun _ _ _ h => h) (Or.inl ⟨by rfl, ?_⟩) ?_ ?_
   rotate_left
   ·intro w'
    go_simp
    with_reducible rfl
   rotate_left
   ·exact zP
   refine take_ (i := 4) (N := some 18) (v := ?_) (a' := ?_) #[o',o',o',o',o',z',z',z',z',z'] rfl rfl (take_ofW HT_.out HW_.out (by kernel_rfl)) (fun _ _ _ h => h) (Or.inl ⟨by rfl, ?_⟩) hHeld ?_ ?_
   rotate_left
   ·rintro w' ⟨s0, s1, s2, s3, s4, s5⟩
    go_simp
    with_reducible rfl
   rotate_left
   ·exact zP
   refine take_ (i := 5) (N := some 19) (v := ?_) (a' := ?_) #[o',o',o',o',o',o',z',z',z',z'] rfl rfl (take_ofW HT_.out HW_.out (by kernel_rfl)) (fun _ _ _ h => h) (Or.inl ⟨by rfl, ?_⟩) hHeld ?_ ?_
   rotate_left
   ·rintro w' ⟨s0, s1, s2, s3, s4, s5⟩
    go_simp
    with_reducible rfl
   rotate_left
   ·exact zP
   refine one_ (i := 6) (N := some 20) #[o',o',o',o',o',o',o',z',z',z'] rfl rfl (one_of HT_.out (by kernel_rfl)) (by decide) (fun K hK => ?_)
   refine goes_ Try.func91 (by kernel_rfl) rfl #[.agg #[.int .i64 ((rd_T71 l0 x6_1).f0), .int .i64 ((rd_T71 l0 x6_1).f1), .int .i64 ((rd_T71 l0 x6_1).f2)], .agg #[.int .i64 a1_0, .int .i64 a1_1, .int .i64 a1_2]] (by rfl) rfl rfl zL ?_
   with_reducible refine (spec_l09Add.calls ((rd_T71 l0 x6_1).f0) ((rd_T71 l0 x6_1).f1) ((rd_T71 l0 x6_1).f2) a1_0 a1_1 a1_2 t252 t253 t254 _ A8.out).mono ?_
   rintro e w11 ⟨rfl, hb⟩
   refine ⟨_, rfl, ?_⟩
   have n0_ := am (Kd.R_below (zR HO_5) hb)
   have n1_ := am (Bk4 (g := gb247) (o := .cells #[.int .i64 a1_0, .int .i64 a1_1, .int .i64 a1_2] 71 (0, 0)) (zK BK247) hb)
   have n2_ := am (Bb6 (by repeat (first | (with_reducible first | exact HB.out | apply Bb1 | apply Bb2 | apply Bb3 | refine Bb4 ?_ GE247.out) | exact HB.out)) hb)
   clear HO_5
   clear BK247
   clear HB
   have HO_5 := n0_
   have BK247 := n1_
   have HB := n2_
   clear n0_ n1_ n2_
   (try clear hb)
   (try clear hb2)
   (try clear hk)
   (try clear hi)
   refine hK.out _ _ ⟨(kc BK247.out 0).trans rfl, (kc BK247.out 1).trans rfl, (kc BK247.out 2).trans rfl, (pc HB.out hw251_0), (pc HB.out hw251_1), (pc HB.out hw251_2)⟩ (fun hHeld => ?_)
   clear hK K
   refine norm_ (a' := ?_) ?_ ?_
   rotate_left
   ·show Act.put _ (some 20) _ = _
    simp only [Act.put, sa, i64_w, i32_w]
    rfl
   refine one_ (i := 7) (N := some 21) #[o',o',o',o',o',o',o',o',z',z'] rfl rfl (one_of HT_.out (by kernel_rfl)) (by decide) (fun K hK => ?_)
   refine value_ (w1 := ?_) (v := ?_) (by rfl) rfl ?_ ?_
   rotate_left 2
   ·go_simp
    constructor
    ·rfl
    rfl
   refine hK.out _ _ ⟨(kc (Bk1 BK247.out _) 0).trans rfl, (kc (Bk1 BK247.out _) 1).trans rfl, (kc (Bk1 BK247.out _) 2).trans rfl, (World.cell?_alloc_lt _ _ _ (World.block_lt_of_cell? _ _ ((pc HB.out hw251_0)))).trans ((pc HB.out hw251_0)), (World.cell?_alloc_lt _ _ _ (World.block_lt_of_cell? _ _ ((pc HB.out hw251_1)))).trans ((pc HB.out hw251_1)), (World.cell?_alloc_lt _ _ _ (World.block_lt_of_cell? _ _ ((pc HB.out hw251_2)))).trans ((pc HB.out hw251_2))⟩ (fun hHeld => ?_)
   clear hK K
   refine norm_ (a' := ?_) ?_ ?_
   rotate_left
   ·show Act.put _ (some 21) _ = _
    simp only [Act.put, sa, i64_w, i32_w]
    rfl
   refine one_ (i := 8) (N := some 22) #[o',o',o',o',o',o',o',o',o',z'] rfl rfl (one_of HT_.out (by kernel_rfl)) (by decide) (fun K hK => ?_)
   refine Kd.R_append_step k71 (w0 := w) w.heap.size (by rfl) (.tmp 14) (.tmp 21) 36 71 (.agg #[(.int .i64 0), (.int .i64 0), (.int .i64 0)]) 24 rfl Try.underlying36 info71 rfl (by decide) (by omega) u5 x5_1 (⟨t252, t253, t254⟩ : S71) [.int .i64 t252, .int .i64 t253, .int .i64 t254] (fun k_ => k_ ≠ gb247) (fun _ => False) rfl rfl ?aP (fun _ hk => hk.elim) ?aF ?aO ?aB ?aS ?aL ?_
   (case aP => exact k71_mkM _ _ _ (⟨t252, t253, t254⟩ : S71))
   (case aB => exact (by repeat (first | (with_reducible first | exact HB.out | apply Bb1 | apply Bb2 | apply Bb3 | refine Bb4 ?_ GE247.out) | exact HB.out)))
   (case aF => exact (fun k_ hk => Kd.freshB (g := gb247) (o := .cells #[.int .i64 a1_0, .int .i64 a1_1, .int .i64 a1_2] 71 (0, 0)) (zK BK247) k_ hk))
   (case aO => exact (zR HO_5))
   (case aS => exact (Bb5 (by repeat (first | (with_reducible first | exact HB.out | apply Bb1 | apply Bb2 | apply Bb3 | refine Bb4 ?_ GE247.out) | exact HB.out))))
   (case aL => have := LMc9.out; omega)
   intro v256 w12 ho hb hg hat
   rw [← Ny255.out] at ho
   have n0_ := am (blk_grown (g := gb247) (o := .cells #[.int .i64 a1_0, .int .i64 a1_1, .int .i64 a1_2] 71 (0, 0)) (zK BK247) hg (Kd.R_away HO_5.out (fun _ hk => hk)))
   have n1_ := am (hb)
   have n2_ := am (ho)
   clear BK247
   clear HB
   clear HO_5
   have BK247 := n0_
   have HB := n1_
   have HO257 := n2_
   clear n0_ n1_ n2_
   clear ho hb hg hat
   refine hK.out _ _ ⟨(kc BK247.out 0).trans rfl, (kc BK247.out 1).trans rfl, (kc BK247.out 2).trans rfl, (pc HB.out hw251_0), (pc HB.out hw251_1), (pc HB.out hw251_2)⟩ (fun hHeld => ?_)
   clear hK K
   refine norm_ (a' := ?_) ?_ ?_
   rotate_left
   ·show Act.put _ (some 22) _ = _
    simp only [Act.put, sa, i64_w, i32_w]
    rfl
   refine pure_ (i := 9) (N := some 5) (v := ?_) (a' := ?_) #[o',o',o',o',o',o',o',o',o',o'] rfl rfl zA (fun _ _ _ h => h) (Or.inl ⟨by rfl, ?_⟩) ?_ ?_
   rotate_left
   ·intro w'
    go_simp
    with_reducible rfl
   rotate_left
   ·exact zP
   refine done_ (done_of HT_.out (by kernel_rfl)) ?_
   try go_wp2
   go_roundg k1
   case measure => have := HK1.out; omega
   case rel => exact ⟨(y255), (wrap64 (x6_1 + 1)), zS, H', ⟨by have := HK1.out; omega⟩, ⟨zR HO257⟩, ⟨zK BK247⟩, ⟨by repeat (first | (with_reducible first | exact HB.out | apply Bb1 | apply Bb2 | apply Bb3 | refine Bb4 ?_ GE247.out) | exact HB.out)⟩⟩

end Go.Proofs.Ytjgnlakgojookaa.Q
