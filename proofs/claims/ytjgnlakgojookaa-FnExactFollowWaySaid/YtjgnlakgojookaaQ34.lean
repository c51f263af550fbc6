/- Written by a program of this session (wip/tools/pp.py) out of the translation, with the kit's printer. -/
import Derived.Test.YtjgnlakgojookaaQ0
import Derived.Test.YtjgnlakgojookaaQ5
import Derived.Test.YtjgnlakgojookaaQ24
namespace Go.Proofs.Ytjgnlakgojookaa.Q
open Go.RowKit Go.Proofs.YtjgnlakgojookaaW.PrintWords Go.Proofs.YtjgnlakgojookaaW.PrintLast Go.Proofs.YtjgnlakgojookaaW.PrintMore
attribute [local go_sem] max2_int min2_int max_two min_two max_three min_three max_four min_four
set_option linter.unusedVariables false
set_option linter.unusedSimpArgs false

/-! ### spec_l27After: function 80 -/
def spec_l27After.l0 : Nat → List (S71) → Int → List (S71) → Int → Option ((List (S71)))
 | 0, _, _, _, _ => none
 | k + 1, x0, x1, x5, x6 => if x6 < (x0.length : Int) then (if 0 ≤ (IntKind.u64.wrap (x6)) then (if (Go.bits .and .i64 (shr .i64 (wrap64 (Int.tdiv x1 6)) (IntKind.u64.wrap (x6))) 1) = 1 then (if 0 ≤ x6 then ((spec_l27Vector.f (Int.tmod x1 6)).bind fun bt439 => ((spec_l09Add.f ((rd_T71 x0 x6).f0) ((rd_T71 x0 x6).f1) ((rd_T71 x0 x6).f2) bt439.1 bt439.2.1 bt439.2.2).bind fun bt442 => (if x5.length < 5864062014805 then (spec_l27After.l0 k x0 x1 (x5 ++ [(⟨bt442.1, bt442.2.1, bt442.2.2⟩ : S71)]) (wrap64 (x6 + 1))) else (none)))) else (none)) else (if 0 ≤ x6 then (if x5.length < 5864062014805 then (spec_l27After.l0 k x0 x1 (x5 ++ [(⟨(rd_T71 x0 x6).f0, (rd_T71 x0 x6).f1, (rd_T71 x0 x6).f2⟩ : S71)]) (wrap64 (x6 + 1))) else (none)) else (none))) else (none)) else (some x5)
def spec_l27After.f (k : Nat) (l0 : List (S71)) (a1 : Int) : Option ((List (S71))) := spec_l27After.l0 k l0 a1 (([] : List (S71))) 0
theorem spec_l27After.mono_l : ∀ k, (∀ y0 y1 y2 y3, LeO (spec_l27After.l0 k y0 y1 y2 y3) (spec_l27After.l0 (k + 1) y0 y1 y2 y3))
 | 0 => fun _ _ _ _ r h => by simp [spec_l27After.l0] at h
 | k + 1 => by
  have ih0 := spec_l27After.mono_l k
  ·intro y0 y1 y2 y3
   unfold spec_l27After.l0
   repeat' first
   | (with_reducible exact ih0 _ _ _ _)
   | (with_reducible exact LeO.refl _)
   | (with_reducible exact LeO.none _)
   | (with_reducible refine LeO.ite ?_ ?_)
   | (with_reducible refine LeO.bind ?_ (fun _ => ?_))
   | exact ih0 _ _ _ _
   | exact LeO.none _
   | refine LeO.ite ?_ ?_
   | refine LeO.bind ?_ (fun _ => ?_)
theorem spec_l27After.mono : ∀ a0 a1 k, LeO (spec_l27After.f k a0 a1) (spec_l27After.f (k + 1) a0 a1) := by
 intro a0 a1 k
 have ih0 := spec_l27After.mono_l k
 unfold spec_l27After.f
 repeat' first
   | (with_reducible exact ih0 _ _ _ _)
   | (with_reducible exact LeO.refl _)
   | (with_reducible exact LeO.none _)
   | (with_reducible refine LeO.ite ?_ ?_)
   | (with_reducible refine LeO.bind ?_ (fun _ => ?_))
   | exact ih0 _ _ _ _
   | exact LeO.none _
   | refine LeO.ite ?_ ?_
   | refine LeO.bind ?_ (fun _ => ?_)
def spec_l27After.T6 : Bool × List (List Nat × List Nat) := (true, [([], []), ([], []), ([], []), ([1, 2], [1, 2]), ([3], [3]), ([], []), ([5], [5]), ([6], [6]), ([4, 7, 7], [4, 7]), ([8], [8]), ([0, 9, 8], [0, 9]), ([10, 10, 0, 1, 2, 3, 4, 5, 6, 7, 8, 9, 10], [0, 10])])
def spec_l27After.B6 : List Nat := [0, 0, 0, 6, 14, 0, 32, 96, 254, 510, 1023, 2047]
theorem spec_l27After.tab6 : rtab .any (opsOf Try.f80 6) = spec_l27After.T6 := by kernel_rfl
theorem spec_l27After.bits6 : waitsOk spec_l27After.T6.2 spec_l27After.B6 = true := by kernel_rfl
set_option maxHeartbeats 8000000 in
set_option maxRecDepth 100000 in
theorem spec_l27After.calls (k : Nat) (A0 : Option Addr) (c0 : Nat) (l0 : List (S71)) (a1 : Int) (r : List (S71)) (w : World) (hr0 : Kd.C k71 w A0 l0.length l0) (hc0 : l0.length ≤ c0) (h : spec_l27After.f k l0 a1 = some r) :
  Calls Try.prog 80 #[.slice A0 l0.length c0, .int .i64 a1] w fun e w' => ∃ v0_ : Value, e = .returned (v0_) ∧ Kd.R k71 71 w' w.heap.size (fun _ => True) v0_ r ∧ Below w.heap.size w w' := by
 have hu71 := Try.underlying71
 have HR0 := am hr0
 have HC0 := am hc0
 clear hr0 hc0
 have HB := am (Below.refl w.heap.size w)
 have H : (spec_l27After.l0 k l0 a1 (([] : List (S71))) 0) = some r := h
 clear h
 obtain ⟨y435, hy435⟩ : ∃ y_ : List (S71), y_ = (([] : List (S71))) := ⟨_, rfl⟩
 replace H : (spec_l27After.l0 k l0 a1 y435 0) = some r := by first | (rw [hy435]; with_reducible exact H) | (have H2_ := (Option.bind_some _ _).symm.trans H; rw [hy435]; with_reducible exact H2_) | (have H2_ := (Option.bind_some _ _).symm.trans H; with_reducible exact H2_) | with_reducible exact H | (rw [hy435]; exact H) | exact H
 have Ny435 := am hy435
 clear hy435
 have H' := am H
 clear H
 go_enter Try.func80, Try.ntmps80
 go_wp2_with (first | ((with_reducible refine gate_dst (N := 7) rfl ?_); refine Kd.R_lit k71 _ 71 ?hg (N := 7) ?hd (xs := ([] : List (S71))) (inner := []) (ok := fun _ => True) (okp := fun _ => True) ?hr ?hp (fun _ hk => hk) trivial (Below.refl _ _) (Nat.le_refl _) (by simp) ?_; (case hd => rfl); (case hg => rfl); (case hr => first | (go_simp; done) | (go_simp; rfl)); (case hp => exact (Reps.none _ _)); intro v436 w3 ho4 hb hg_ hnew_; clear hg_ hnew_; (first | rw [← Ny435.out] at ho4 | (simp only [Int.reduceToNat] at ho4; rw [← Ny435.out] at ho4)); have n0_ := am (Kd.R_lower ho4 (Bb5 zB)); have n1_ := am (Bb6 zB hb); clear HB; have HO437 := n0_; have HB := n1_; clear n0_ n1_; clear hb ho4))
 go_loopg [5, 6] k (fun kq v5 v6 w' => ∃ (x5_1 : List (S71)) (x6_1 : Int), v6 = .int .i64 x6_1 ∧ Aside0 (spec_l27After.l0 kq l0 a1 x5_1 x6_1 = some r) ∧ Aside0 (kq ≤ k) ∧ Aside0 (Kd.R k71 71 w' w.heap.size (fun _ => True) v5 x5_1) ∧ Aside0 (Below w.heap.size w w'))
 case atStart => exact ⟨(y435), (0), zS, H', ⟨Nat.le_refl _⟩, ⟨zR HO437⟩, ⟨zB⟩⟩
 case round =>
  clear H'
  try clear p2
  obtain ⟨x5_1, x6_1, rfl, HA, HK1, HO_5, HB⟩ := hrel
  cases gk with
  | zero => exact absurd HA.out (by simp [spec_l27After.l0])
  | succ k1 =>
   have H := HA.out
   clear HA
   simp only [spec_l27After.l0] at H
   by_cases c5 : x6_1 < (l0.length : Int)
   rotate_left
   ·rw [if_neg c5] at H
    have c5b0 : decide (x6_1 < (l0.length : Int)) = false := decide_eq_false c5
    clear c5
    obtain rfl := oi H
    go_wp2
    go_ret
    exact ⟨_, zE, by (with_reducible repeat (first | apply Kd.R_alloc | apply Kd.R_drewN | apply Kd.R_drew)); exact HO_5.out, zB⟩
   rw [if_pos c5] at H
   have c5b0 : decide (x6_1 < (l0.length : Int)) = true := decide_eq_true c5
   clear c5
   obtain ⟨ji6, hji6⟩ : ∃ j_ : Int, (IntKind.u64.wrap (x6_1)) = j_ := ⟨_, rfl⟩
   replace H : (if 0 ≤ (ji6) then (if (Go.bits .and .i64 (shr .i64 (wrap64 (Int.tdiv a1 6)) (ji6)) 1) = 1 then (if 0 ≤ x6_1 then ((spec_l27Vector.f (Int.tmod a1 6)).bind fun bt439 => ((spec_l09Add.f ((rd_T71 l0 x6_1).f0) ((rd_T71 l0 x6_1).f1) ((rd_T71 l0 x6_1).f2) bt439.1 bt439.2.1 bt439.2.2).bind fun bt442 => (if x5_1.length < 5864062014805 then (spec_l27After.l0 k1 l0 a1 (x5_1 ++ [(⟨bt442.1, bt442.2.1, bt442.2.2⟩ : S71)]) (wrap64 (x6_1 + 1))) else (none)))) else (none)) else (if 0 ≤ x6_1 then (if x5_1.length < 5864062014805 then (spec_l27After.l0 k1 l0 a1 (x5_1 ++ [(⟨(rd_T71 l0 x6_1).f0, (rd_T71 l0 x6_1).f1, (rd_T71 l0 x6_1).f2⟩ : S71)]) (wrap64 (x6_1 + 1))) else (none)) else (none))) else (none)) = some r := by first | (rw [hji6] at H; exact H) | (simp only [hji6] at H ⊢; exact H)
   by_cases c7 : 0 ≤ (ji6)
   rotate_left
   ·rw [if_neg c7] at H
    exact absurd H (by simp)
   rw [if_pos c7] at H
   have c7b0 := eq_true c7
   have c7b1 : decide (0 ≤ (ji6)) = true := decide_eq_true c7
   clear c7
   obtain ⟨ji8, hji8⟩ : ∃ j_ : Int, (shr .i64 (wrap64 (Int.tdiv a1 6)) (ji6)) = j_ := ⟨_, rfl⟩
   replace H : (if (Go.bits .and .i64 (ji8) 1) = 1 then (if 0 ≤ x6_1 then ((spec_l27Vector.f (Int.tmod a1 6)).bind fun bt439 => ((spec_l09Add.f ((rd_T71 l0 x6_1).f0) ((rd_T71 l0 x6_1).f1) ((rd_T71 l0 x6_1).f2) bt439.1 bt439.2.1 bt439.2.2).bind fun bt442 => (if x5_1.length < 5864062014805 then (spec_l27After.l0 k1 l0 a1 (x5_1 ++ [(⟨bt442.1, bt442.2.1, bt442.2.2⟩ : S71)]) (wrap64 (x6_1 + 1))) else (none)))) else (none)) else (if 0 ≤ x6_1 then (if x5_1.length < 5864062014805 then (spec_l27After.l0 k1 l0 a1 (x5_1 ++ [(⟨(rd_T71 l0 x6_1).f0, (rd_T71 l0 x6_1).f1, (rd_T71 l0 x6_1).f2⟩ : S71)]) (wrap64 (x6_1 + 1))) else (none)) else (none))) = some r := by first | (rw [hji8] at H; exact H) | (simp only [hji8] at H ⊢; exact H)
   have hji8_ : ((wrap64 (Int.tdiv a1 6)) / 2 ^ min (ji6).toNat 64) = ji8 := hji8
   have hji8z : (ji6) ≤ 64 → ((wrap64 (Int.tdiv a1 6)) / 2 ^ (ji6).toNat) = ji8 := shr_small hji8
   by_cases c9 : (Go.bits .and .i64 (ji8) 1) = 1
   rotate_left
   ·rw [if_neg c9] at H
    have c9b0 : ((Go.bits .and .i64 (ji8) 1) == 1) = false := beq_eq_false_iff_ne.mpr c9
    have c9b1 : ((Go.bits .and .i64 (ji8) 1) != 1) = true := bne_iff_ne.mpr c9
    by_cases c18 : 0 ≤ x6_1
    rotate_left
    ·rw [if_neg c18] at H
     exact absurd H (by simp)
    rw [if_pos c18] at H
    have c18b0 : decide (0 ≤ x6_1) = true := decide_eq_true c18
    clear c18
    by_cases c19 : x5_1.length < 5864062014805
    rotate_left
    ·rw [if_neg c19] at H
     exact absurd H (by simp)
    rw [if_pos c19] at H
    have LMc19 := am c19
    clear c19
    obtain ⟨y449, hy449⟩ : ∃ y_ : List (S71), y_ = (x5_1 ++ [(⟨(rd_T71 l0 x6_1).f0, (rd_T71 l0 x6_1).f1, (rd_T71 l0 x6_1).f2⟩ : S71)]) := ⟨_, rfl⟩
    replace H : (spec_l27After.l0 k1 l0 a1 y449 (wrap64 (x6_1 + 1))) = some r := by first | (rw [hy449]; with_reducible exact H) | (have H2_ := (Option.bind_some _ _).symm.trans H; rw [hy449]; with_reducible exact H2_) | (have H2_ := (Option.bind_some _ _).symm.trans H; with_reducible exact H2_) | with_reducible exact H | (rw [hy449]; exact H) | exact H
    have Ny449 := am hy449
    clear hy449
    have H' := am H
    clear H
    have p448 : 0 ≤ (x6_1 : Int) := zD
    have q448 : x6_1 < (l0.length : Int) := zD
    obtain ⟨ad448, e448, hx448_0, hx448_1, hx448_2⟩ := at_T71 HR0.out x6_1 p448 q448
    cases e448
    replace hx448_0 := pc HB.out hx448_0
    replace hx448_1 := pc HB.out hx448_1
    replace hx448_2 := pc HB.out hx448_2
    replace p448 := eq_true p448
    replace q448 := eq_true q448
    go_wp2_with (first | ((with_reducible refine gate_builtin (b := .append) (xs := #[.tmp 32, .tmp 37]) rfl ?_); at_builtin; refine Kd.R_append k71 (w0 := w) w.heap.size rfl (.tmp 32) (.tmp 37) 36 71 (.agg #[(.int .i64 0), (.int .i64 0), (.int .i64 0)]) 24 rfl Try.underlying36 info71 rfl (by decide) (by omega) u5 x5_1 (⟨(rd_T71 l0 x6_1).f0, (rd_T71 l0 x6_1).f1, (rd_T71 l0 x6_1).f2⟩ : S71) [.int .i64 ((rd_T71 l0 x6_1).f0), .int .i64 ((rd_T71 l0 x6_1).f1), .int .i64 ((rd_T71 l0 x6_1).f2)] (fun _ => True) (fun _ => False) rfl rfl ?aP (fun _ hk => hk.elim) ?aF ?aO ?aB ?aS ?aL ?_; (case aP => exact k71_mkM _ _ _ (⟨(rd_T71 l0 x6_1).f0, (rd_T71 l0 x6_1).f1, (rd_T71 l0 x6_1).f2⟩ : S71)); (case aB => exact zB); (case aF => exact (fun _ _ => trivial)); (case aO => exact (zR HO_5)); (case aS => exact (Bb5 zB)); (case aL => have := LMc19.out; omega); intro v450 w20 ho hb hg hat; rw [← Ny449.out] at ho; have n0_ := am (hb); have n1_ := am (ho); clear HB; clear HO_5; have HB := n0_; have HO451 := n1_; clear n0_ n1_; clear ho hb hg hat))
    go_roundg k1
    case measure => have := HK1.out; omega
    case rel => exact ⟨(y449), (wrap64 (x6_1 + 1)), zS, H', ⟨by have := HK1.out; omega⟩, ⟨zR HO451⟩, ⟨zB⟩⟩
   rw [if_pos c9] at H
   have c9b0 : ((Go.bits .and .i64 (ji8) 1) == 1) = true := beq_iff_eq.mpr c9
   have c9b1 : ((Go.bits .and .i64 (ji8) 1) != 1) = false := bne_eq_false_iff_eq.mpr c9
   clear c9
   by_cases c10 : 0 ≤ x6_1
   rotate_left
   ·rw [if_neg c10] at H
    exact absurd H (by simp)
   rw [if_pos c10] at H
   have c10b0 : decide (0 ≤ x6_1) = true := decide_eq_true c10
   clear c10
   replace H := ob H
   obtain ⟨⟨t439, t440, t441⟩, A110, H⟩ := H
   (try dsimp only at H)
   have A11 := am A110
   clear A110
   replace H := ob H
   obtain ⟨⟨t442, t443, t444⟩, A120, H⟩ := H
   (try dsimp only at H)
   have A12 := am A120
   clear A120
   by_cases c13 : x5_1.length < 5864062014805
   rotate_left
   ·rw [if_neg c13] at H
    exact absurd H (by simp)
   rw [if_pos c13] at H
   have LMc13 := am c13
   clear c13
   obtain ⟨y445, hy445⟩ : ∃ y_ : List (S71), y_ = (x5_1 ++ [(⟨t442, t443, t444⟩ : S71)]) := ⟨_, rfl⟩
   replace H : (spec_l27After.l0 k1 l0 a1 y445 (wrap64 (x6_1 + 1))) = some r := by first | (rw [hy445]; with_reducible exact H) | (have H2_ := (Option.bind_some _ _).symm.trans H; rw [hy445]; with_reducible exact H2_) | (have H2_ := (Option.bind_some _ _).symm.trans H; with_reducible exact H2_) | with_reducible exact H | (rw [hy445]; exact H) | exact H
   have Ny445 := am hy445
   clear hy445
   have H' := am H
   clear H
   try go_wp2
   have n0_ := am (Kd.R_drew HO_5.out)
   have n1_ := am (Bb3 HB.out)
   clear HO_5
   clear HB
   have HO_5 := n0_
   have HB := n1_
   clear n0_ n1_
   have p438 : 0 ≤ (x6_1 : Int) := zD
   have q438 : x6_1 < (l0.length : Int) := zD
   obtain ⟨ad438, e438, hx438_0, hx438_1, hx438_2⟩ := at_T71 HR0.out x6_1 p438 q438
   have hw438_2 := hx438_2
   have hw438_1 := hx438_1
   have hw438_0 := hx438_0
   cases e438
   replace hx438_0 := pc HB.out hx438_0
   replace hx438_1 := pc HB.out hx438_1
   replace hx438_2 := pc HB.out hx438_2
   replace p438 := eq_true p438
   replace q438 := eq_true q438
   refine start_ (n := 12) (S := fun w' => w'.cell? (ad438.add ((x6_1).toNat * 3)) = some (.int .i64 ((rd_T71 l0 x6_1).f0)) ∧ w'.cell? ⟨(ad438.add ((x6_1).toNat * 3)).block, (ad438.add ((x6_1).toNat * 3)).off + 1, none⟩ = some (.int .i64 ((rd_T71 l0 x6_1).f1)) ∧ w'.cell? ⟨(ad438.add ((x6_1).toNat * 3)).block, (ad438.add ((x6_1).toNat * 3)).off + 2, none⟩ = some (.int .i64 ((rd_T71 l0 x6_1).f2))) (ds := []) #[z',z',z',z',z',z',z',z',z',z',z',z'] (by kernel_rfl) rfl rfl ⟨(pc HB.out hw438_0), (pc HB.out hw438_1), (pc HB.out hw438_2)⟩ (fun hHeld => ?_); refine with_tabW spec_l27After.tab6 spec_l27After.bits6 (fun HT_ HW_ => ?_)
   generalize wr.drew = w14 at HO_5 HB hx438_0 hx438_1 hx438_2 hHeld ⊢
   refine pure_ (i := 0) (N := some 21) (v := ?_) (a' := ?_) #[o',z',z',z',z',z',z',z',z',z',z',z'] rfl rfl zA (fun _ _ _ h => h) (Or.inl ⟨by rfl, ?_⟩) ?_ ?_
   rotate_left
   ·intro w'
    go_simp
    with_reducible rfl
   rotate_left
   ·exact zP
   refine pure_ (i := 1) (N := some 22) (v := ?_) (a' := ?_) #[o',o',z',z',z',z',z',z',z',z',z',z'] rfl rfl zA (fun _ _ _ h => h) (Or.inl ⟨by rfl, ?_⟩) ?_ ?_
   rotate_left
   ·intro w'
    go_simp
    with_reducible rfl
   rotate_left
   ·exact zP
   refine pure_ (i := 2) (N := some 23) (v := ?_) (a' := ?_) #[o',o',o',z',z',z',z',z',z',z',z',z'] rfl rfl zA (fun _ _ _ h => h) (Or.inl ⟨by rfl, ?_⟩) ?_ ?_
   rotate_left
   ·intro w'
    go_simp
    with_reducible rfl
   rotate_left
   ·exact zP
   refine pure_ (i := 3) (N := some 24) (v := ?_) (a' := ?_) #[o',o',o',o',z',z',z',z',z',z',z',z'] rfl rfl zA (fun _ _ _ h => h) (Or.inl ⟨by rfl, ?_⟩) ?_ ?_
   rotate_left
   ·intro w'
    go_simp
    with_reducible rfl
   rotate_left
   ·exact zP
   refine pure_ (i := 5) (N := some 26) (v := ?_) (a' := ?_) #[o',o',o',o',z',o',z',z',z',z',z',z'] rfl rfl zA (fun _ _ _ h => h) (Or.inl ⟨by rfl, ?_⟩) ?_ ?_
   rotate_left
   ·intro w'
    go_simp
    with_reducible rfl
   rotate_left
   ·exact zP
   refine pure_ (i := 6) (N := some 27) (v := ?_) (a' := ?_) #[o',o',o',o',z',o',o',z',z',z',z',z'] rfl rfl zA (fun _ _ _ h => h) (Or.inl ⟨by rfl, ?_⟩) ?_ ?_
   rotate_left
   ·intro w'
    go_simp
    with_reducible rfl
   rotate_left
   ·exact zP
   refine take_ (i := 4) (N := some 25) (v := ?_) (a' := ?_) #[o',o',o',o',o',o',o',z',z',z',z',z'] rfl rfl (take_ofW HT_.out HW_.out (by kernel_rfl)) (fun _ _ _ h => h) (Or.inl ⟨by rfl, ?_⟩) hHeld ?_ ?_
   rotate_left
   ·rintro w' ⟨s0, s1, s2⟩
    go_simp
    with_reducible rfl
   rotate_left
   ·exact zP
   refine one_ (i := 7) (N := some 28) #[o',o',o',o',o',o',o',o',z',z',z',z'] rfl rfl (one_of HT_.out (by kernel_rfl)) (by decide) (fun K hK => ?_)
   refine goes_ Try.func101 (by kernel_rfl) rfl #[.int .i64 (Int.tmod a1 6)] (by rfl) rfl rfl zL ?_
   with_reducible refine (spec_l27Vector.calls (Int.tmod a1 6) t439 t440 t441 _ A11.out).mono ?_
   rintro e w15 ⟨rfl, hb⟩
   refine ⟨_, rfl, ?_⟩
   have n0_ := am (Kd.R_below (zR HO_5) hb)
   have n1_ := am (Bb6 zB hb)
   clear HO_5
   clear HB
   have HO_5 := n0_
   have HB := n1_
   clear n0_ n1_
   (try clear hb)
   (try clear hb2)
   (try clear hk)
   (try clear hi)
   refine hK.out _ _ ⟨(pc HB.out hw438_0), (pc HB.out hw438_1), (pc HB.out hw438_2)⟩ (fun hHeld => ?_)
   clear hK K
   refine norm_ (a' := ?_) ?_ ?_
   rotate_left
   ·show Act.put _ (some 28) _ = _
    simp only [Act.put, sa, i64_w, i32_w]
    rfl
   refine one_ (i := 8) (N := some 29) #[o',o',o',o',o',o',o',o',o',z',z',z'] rfl rfl (one_of HT_.out (by kernel_rfl)) (by decide) (fun K hK => ?_)
   refine goes_ Try.func91 (by kernel_rfl) rfl #[.agg #[.int .i64 ((rd_T71 l0 x6_1).f0), .int .i64 ((rd_T71 l0 x6_1).f1), .int .i64 ((rd_T71 l0 x6_1).f2)], .agg #[.int .i64 t439, .int .i64 t440, .int .i64 t441]] (by rfl) rfl rfl zL ?_
   with_reducible refine (spec_l09Add.calls ((rd_T71 l0 x6_1).f0) ((rd_T71 l0 x6_1).f1) ((rd_T71 l0 x6_1).f2) t439 t440 t441 t442 t443 t444 _ A12.out).mono ?_
   rintro e w16 ⟨rfl, hb⟩
   refine ⟨_, rfl, ?_⟩
   have n0_ := am (Kd.R_below (zR HO_5) hb)
   have n1_ := am (Bb6 zB hb)
   clear HO_5
   clear HB
   have HO_5 := n0_
   have HB := n1_
   clear n0_ n1_
   (try clear hb)
   (try clear hb2)
   (try clear hk)
   (try clear hi)
   refine hK.out _ _ ⟨(pc HB.out hw438_0), (pc HB.out hw438_1), (pc HB.out hw438_2)⟩ (fun hHeld => ?_)
   clear hK K
   refine norm_ (a' := ?_) ?_ ?_
   rotate_left
   ·show Act.put _ (some 29) _ = _
    simp only [Act.put, sa, i64_w, i32_w]
    rfl
   refine one_ (i := 9) (N := some 30) #[o',o',o',o',o',o',o',o',o',o',z',z'] rfl rfl (one_of HT_.out (by kernel_rfl)) (by decide) (fun K hK => ?_)
   refine value_ (w1 := ?_) (v := ?_) (by rfl) rfl ?_ ?_
   rotate_left 2
   ·go_simp
    constructor
    ·rfl
    rfl
   refine hK.out _ _ ⟨(World.cell?_alloc_lt _ _ _ (World.block_lt_of_cell? _ _ ((pc HB.out hw438_0)))).trans ((pc HB.out hw438_0)), (World.cell?_alloc_lt _ _ _ (World.block_lt_of_cell? _ _ ((pc HB.out hw438_1)))).trans ((pc HB.out hw438_1)), (World.cell?_alloc_lt _ _ _ (World.block_lt_of_cell? _ _ ((pc HB.out hw438_2)))).trans ((pc HB.out hw438_2))⟩ (fun hHeld => ?_)
   clear hK K
   refine norm_ (a' := ?_) ?_ ?_
   rotate_left
   ·show Act.put _ (some 30) _ = _
    simp only [Act.put, sa, i64_w, i32_w]
    rfl
   refine one_ (i := 10) (N := some 31) #[o',o',o',o',o',o',o',o',o',o',o',z'] rfl rfl (one_of HT_.out (by kernel_rfl)) (by decide) (fun K hK => ?_)
   refine Kd.R_append_step k71 (w0 := w) w.heap.size (by rfl) (.tmp 21) (.tmp 30) 36 71 (.agg #[(.int .i64 0), (.int .i64 0), (.int .i64 0)]) 24 rfl Try.underlying36 info71 rfl (by decide) (by omega) u5 x5_1 (⟨t442, t443, t444⟩ : S71) [.int .i64 t442, .int .i64 t443, .int .i64 t444] (fun _ => True) (fun _ => False) rfl rfl ?aP (fun _ hk => hk.elim) ?aF ?aO ?aB ?aS ?aL ?_
   (case aP => exact k71_mkM _ _ _ (⟨t442, t443, t444⟩ : S71))
   (case aB => exact zB)
   (case aF => exact (fun _ _ => trivial))
   (case aO => exact (zR HO_5))
   (case aS => exact (Bb5 zB))
   (case aL => have := LMc13.out; omega)
   intro v446 w17 ho hb hg hat
   rw [← Ny445.out] at ho
   have n0_ := am (hb)
   have n1_ := am (ho)
   clear HB
   clear HO_5
   have HB := n0_
   have HO447 := n1_
   clear n0_ n1_
   clear ho hb hg hat
   refine hK.out _ _ ⟨(pc HB.out hw438_0), (pc HB.out hw438_1), (pc HB.out hw438_2)⟩ (fun hHeld => ?_)
   clear hK K
   refine norm_ (a' := ?_) ?_ ?_
   rotate_left
   ·show Act.put _ (some 31) _ = _
    simp only [Act.put, sa, i64_w, i32_w]
    rfl
   refine pure_ (i := 11) (N := some 5) (v := ?_) (a' := ?_) #[o',o',o',o',o',o',o',o',o',o',o',o'] rfl rfl zA (fun _ _ _ h => h) (Or.inl ⟨by rfl, ?_⟩) ?_ ?_
   rotate_left
   ·intro w'
    go_simp
    with_reducible rfl
   rotate_left
   ·exact zP
   refine done_ (done_of HT_.out (by kernel_rfl)) ?_
   try go_wp2
   go_roundg k1
   case measure => have := HK1.out; omega
   case rel => exact ⟨(y445), (wrap64 (x6_1 + 1)), zS, H', ⟨by have := HK1.out; omega⟩, ⟨zR HO447⟩, ⟨zB⟩⟩

end Go.Proofs.Ytjgnlakgojookaa.Q
