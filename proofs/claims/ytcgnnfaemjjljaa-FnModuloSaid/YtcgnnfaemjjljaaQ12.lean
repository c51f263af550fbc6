/- Written by a program of this session (wip/tools/pp.py) out of the translation, with the kit's printer. -/
import Derived.Test.YtcgnnfaemjjljaaQ0
import Derived.Test.YtcgnnfaemjjljaaQ9
namespace Go.Proofs.Ytcgnnfaemjjljaa.Q
open Go.RowKit Go.Proofs.YtcgnnfaemjjljaaW.PrintWords Go.Proofs.YtcgnnfaemjjljaaW.PrintLast Go.Proofs.YtcgnnfaemjjljaaW.PrintMore
attribute [local go_sem] max2_int min2_int max_two min_two max_three min_three max_four min_four
set_option linter.unusedVariables false
set_option linter.unusedSimpArgs false

/-! ### spec_l02Insert: function 50 -/
abbrev spec_l02Insert.m0 : Array Bool := #[false, false, false, false, false, false, false, false, false, false]
abbrev spec_l02Insert.m1 : Array Bool := #[true, false, false, false, false, false, false, false, false, false]
abbrev spec_l02Insert.m2 : Array Bool := #[true, true, false, false, false, false, false, false, false, false]
abbrev spec_l02Insert.m3 : Array Bool := #[true, true, true, false, false, false, false, false, false, false]
abbrev spec_l02Insert.m4 : Array Bool := #[true, true, true, false, true, false, false, false, false, false]
abbrev spec_l02Insert.m5 : Array Bool := #[true, true, true, false, true, true, false, false, false, false]
abbrev spec_l02Insert.m6 : Array Bool := #[true, true, true, false, true, true, true, false, false, false]
abbrev spec_l02Insert.m7 : Array Bool := #[true, true, true, true, true, true, true, false, false, false]
abbrev spec_l02Insert.m8 : Array Bool := #[true, true, true, true, true, true, true, true, false, false]
abbrev spec_l02Insert.m9 : Array Bool := #[true, true, true, true, true, true, true, true, true, false]
abbrev spec_l02Insert.m10 : Array Bool := #[true, true, true, true, true, true, true, true, true, true]
def spec_l02Insert.l0 : Nat → List (S37) → List (S37) → Bool → Int → Int → Int → Option ((List (S37)))
 | 0, _, _, _, _, _, _ => none
 | k + 1, x0, x5, x6, x7, x226000, x226001 => if x7 < (x0.length : Int) then (if x6 = true then (if 0 ≤ x7 then (if x5.length < 8796093022208 then (spec_l02Insert.l0 k x0 (x5 ++ [(⟨(rd_T37 x0 x7).f0, (rd_T37 x0 x7).f1⟩ : S37)]) x6 (wrap64 (x7 + 1)) x226000 x226001) else (none)) else (none)) else (if 0 ≤ x7 then ((spec_l02Less.f x226000 x226001 ((rd_T37 x0 x7).f0) ((rd_T37 x0 x7).f1)).bind fun t234 => (if t234 = true then (if x5.length < 8796093022208 then ((some (x5 ++ [(⟨x226000, x226001⟩ : S37)] : List (S37))).bind fun y235 => (if y235.length < 8796093022208 then (spec_l02Insert.l0 k x0 (y235 ++ [(⟨(rd_T37 x0 x7).f0, (rd_T37 x0 x7).f1⟩ : S37)]) true (wrap64 (x7 + 1)) x226000 x226001) else (none))) else (none)) else (if x5.length < 8796093022208 then (spec_l02Insert.l0 k x0 (x5 ++ [(⟨(rd_T37 x0 x7).f0, (rd_T37 x0 x7).f1⟩ : S37)]) x6 (wrap64 (x7 + 1)) x226000 x226001) else (none)))) else (none))) else (if x6 = true then (some x5) else (if x5.length < 8796093022208 then (some (x5 ++ [(⟨x226000, x226001⟩ : S37)])) else (none)))
def spec_l02Insert.f (k : Nat) (l0 : List (S37)) (a1_0 : Int) (a1_1 : Int) : Option ((List (S37))) := spec_l02Insert.l0 k l0 (([] : List (S37))) false 0 a1_0 a1_1
theorem spec_l02Insert.mono_l : ∀ k, (∀ y0 y1 y2 y3 y4 y5, LeO (spec_l02Insert.l0 k y0 y1 y2 y3 y4 y5) (spec_l02Insert.l0 (k + 1) y0 y1 y2 y3 y4 y5))
 | 0 => fun _ _ _ _ _ _ r h => by simp [spec_l02Insert.l0] at h
 | k + 1 => by
  have ih0 := spec_l02Insert.mono_l k
  ·intro y0 y1 y2 y3 y4 y5
   unfold spec_l02Insert.l0
   repeat' first
   | (with_reducible exact ih0 _ _ _ _ _ _)
   | (with_reducible exact LeO.refl _)
   | (with_reducible exact LeO.none _)
   | (with_reducible refine LeO.ite ?_ ?_)
   | (with_reducible refine LeO.bind ?_ (fun _ => ?_))
   | exact ih0 _ _ _ _ _ _
   | exact LeO.none _
   | refine LeO.ite ?_ ?_
   | refine LeO.bind ?_ (fun _ => ?_)
theorem spec_l02Insert.mono : ∀ a0 a1 a2 k, LeO (spec_l02Insert.f k a0 a1 a2) (spec_l02Insert.f (k + 1) a0 a1 a2) := by
 intro a0 a1 a2 k
 have ih0 := spec_l02Insert.mono_l k
 unfold spec_l02Insert.f
 repeat' first
   | (with_reducible exact ih0 _ _ _ _ _ _)
   | (with_reducible exact LeO.refl _)
   | (with_reducible exact LeO.none _)
   | (with_reducible refine LeO.ite ?_ ?_)
   | (with_reducible refine LeO.bind ?_ (fun _ => ?_))
   | exact ih0 _ _ _ _ _ _
   | exact LeO.none _
   | refine LeO.ite ?_ ?_
   | refine LeO.bind ?_ (fun _ => ?_)
def spec_l02Insert.T6 : Bool × List (List Nat × List Nat) := (true, [([], []), ([0], [0]), ([1], [1]), ([2], [2]), ([2], [2]), ([2], [2]), ([4, 5, 2], [2, 4, 5]), ([6, 2], [2, 6]), ([3, 7, 2, 2], [2, 3, 7]), ([2, 8], [2, 8])])
def spec_l02Insert.B6 : List Nat := [0, 1, 3, 7, 7, 7, 55, 119, 255, 511]
theorem spec_l02Insert.tab6 : rtab .any (opsOf Try.f50 6) = spec_l02Insert.T6 := by kernel_rfl
theorem spec_l02Insert.bits6 : waitsOk spec_l02Insert.T6.2 spec_l02Insert.B6 = true := by kernel_rfl
set_option maxHeartbeats 8000000 in
set_option maxRecDepth 100000 in
theorem spec_l02Insert.calls (k : Nat) (A0 : Option Addr) (c0 : Nat) (l0 : List (S37)) (a1_0 : Int) (a1_1 : Int) (r : List (S37)) (w : World) (hr0 : Kd.C k37 w A0 l0.length l0) (hc0 : l0.length ≤ c0) (h : spec_l02Insert.f k l0 a1_0 a1_1 = some r) :
  Calls Try.prog 50 #[.slice A0 l0.length c0, .agg #[.int .i64 a1_0, .int .i64 a1_1]] w fun e w' => ∃ v0_ : Value, e = .returned (v0_) ∧ Kd.R k37 37 w' w.heap.size (fun _ => True) v0_ r ∧ Below w.heap.size w w' := by
 have hu37 := Try.underlying37
 have HR0 := am hr0
 have HC0 := am hc0
 clear hr0 hc0
 have HB := am (Below.refl w.heap.size w)
 have H : (spec_l02Insert.l0 k l0 (([] : List (S37))) false 0 a1_0 a1_1) = some r := h
 clear h
 obtain ⟨y226, hy226⟩ : ∃ y_ : List (S37), y_ = (([] : List (S37))) := ⟨_, rfl⟩
 replace H : (spec_l02Insert.l0 k l0 y226 false 0 a1_0 a1_1) = some r := by first | (rw [hy226]; with_reducible exact H) | (have H2_ := (Option.bind_some _ _).symm.trans H; rw [hy226]; with_reducible exact H2_) | (have H2_ := (Option.bind_some _ _).symm.trans H; with_reducible exact H2_) | with_reducible exact H | (rw [hy226]; exact H) | exact H
 have Ny226 := am hy226
 clear hy226
 have H' := am H
 clear H
 go_enter Try.func50, Try.ntmps50
 go_wp2_with (first | ((with_reducible refine gate_dst (N := 3) rfl ?_); refine box_event ?hg (N := 3) ?hd (cs := #[.int .i64 a1_0, .int .i64 a1_1]) (t := 37) ?hr ?_; (case hd => rfl); (case hg => rfl); (case hr => first | (go_simp; done) | (go_simp; rfl)); intro gb225 hg w3 hbox hb; have n0_ := am (b6 (by repeat (first | (with_reducible first | exact HB.out | apply b1 | apply b2 | apply b3) | exact HB.out)) hb); have n1_ := am (hbox); have n2_ := am ((by rw [hg]; exact (b5 (by repeat (first | (with_reducible first | exact HB.out | apply b1 | apply b2 | apply b3) | exact HB.out))) : w.heap.size ≤ gb225)); have n3_ := n2_; clear HB; have HB := n0_; have BK225 := n1_; have GW225 := n2_; have GE225 := n3_; clear n0_ n1_ n2_ n3_; clear hb hbox hg) | ((with_reducible refine gate_dst (N := 8) rfl ?_); refine Kd.R_lit k37 _ 37 ?hg (N := 8) ?hd (xs := ([] : List (S37))) (inner := []) (ok := fun _ => True) (okp := fun _ => True) ?hr ?hp (fun _ hk => hk) trivial (Below.refl _ _) (Nat.le_refl _) (by simp) ?_; (case hd => rfl); (case hg => rfl); (case hr => first | (go_simp; done) | (go_simp; rfl)); (case hp => exact (Reps.none _ _)); intro v227 w4 ho5 hb hg_ hnew_; clear hg_ hnew_; (first | rw [← Ny226.out] at ho5 | (simp only [Int.reduceToNat] at ho5; rw [← Ny226.out] at ho5)); have n0_ := am (Kd.R_lower (Kd.R_newB ho5 (g := gb225) (o := .cells #[.int .i64 a1_0, .int .i64 a1_1] 37 (0, 0)) (by (with_reducible repeat (first | refine k2 ?_ _ | refine k3 ?_ | refine k1 ?_ _)); exact BK225.out)) (b5 (by repeat (first | (with_reducible first | exact HB.out | apply b1 | apply b2 | apply b3 | refine b4 ?_ GE225.out) | exact HB.out)))); have n1_ := am (k4 (g := gb225) (o := .cells #[.int .i64 a1_0, .int .i64 a1_1] 37 (0, 0)) (by (with_reducible repeat (first | refine k2 ?_ _ | refine k3 ?_ | refine k1 ?_ _)); exact BK225.out) hb); have n2_ := am (b6 (by repeat (first | (with_reducible first | exact HB.out | apply b1 | apply b2 | apply b3 | refine b4 ?_ GE225.out) | exact HB.out)) hb); clear BK225; clear HB; have HO228 := n0_; have BK225 := n1_; have HB := n2_; clear n0_ n1_ n2_; clear hb ho5))
 go_loopg [5, 6, 7] k (fun kq v5 v6 v7 w' => ∃ (x5_1 : List (S37)) (x6_1 : Bool) (x7_1 : Int), v6 = .bool x6_1 ∧ v7 = .int .i64 x7_1 ∧ Aside0 (spec_l02Insert.l0 kq l0 x5_1 x6_1 x7_1 a1_0 a1_1 = some r) ∧ Aside0 (kq ≤ k) ∧ Aside0 (Kd.R k37 37 w' w.heap.size (fun k_ => k_ ≠ gb225) v5 x5_1) ∧ Aside0 (w'.heap[gb225]? = some (.cells #[.int .i64 a1_0, .int .i64 a1_1] 37 (0, 0))) ∧ Aside0 (Below w.heap.size w w'))
 case atStart => exact ⟨(y226), (false), (0), (by first | rfl | (simp; done) | (simp [*]; done)), (by first | rfl | (simp; done) | (simp [*]; done)), H', ⟨Nat.le_refl _⟩, ⟨by (with_reducible repeat (first | apply Kd.R_alloc | apply Kd.R_drewN | apply Kd.R_drew)); exact Kd.R_mono HO228.out (fun _ hk => hk.2)⟩, ⟨by (with_reducible repeat (first | refine k2 ?_ _ | refine k3 ?_ | refine k1 ?_ _)); exact BK225.out⟩, ⟨by repeat (first | (with_reducible first | exact HB.out | apply b1 | apply b2 | apply b3 | refine b4 ?_ GE225.out) | exact HB.out)⟩⟩
 case round =>
  clear H'
  try clear p2
  try clear c5
  obtain ⟨x5_1, x6_1, x7_1, rfl, rfl, HA, HK1, HO_5, BK225, HB⟩ := hrel
  cases gk with
  | zero => exact absurd HA.out (by simp [spec_l02Insert.l0])
  | succ k1 =>
   have H := HA.out
   clear HA
   simp only [spec_l02Insert.l0] at H
   by_cases c6 : x7_1 < (l0.length : Int)
   ·rw [if_pos c6] at H
    have c6b0 : decide (x7_1 < (l0.length : Int)) = true := decide_eq_true c6
    clear c6
    by_cases c7 : x6_1 = true
    ·subst c7
     have H1 : (if 0 ≤ x7_1 then (if x5_1.length < 8796093022208 then (spec_l02Insert.l0 k1 l0 (x5_1 ++ [(⟨(rd_T37 l0 x7_1).f0, (rd_T37 l0 x7_1).f1⟩ : S37)]) true (wrap64 (x7_1 + 1)) a1_0 a1_1) else (none)) else (none)) = some r := by first | (rw [if_pos rfl] at H; exact H) | rfl
     clear H
     have H := H1
     clear H1
     by_cases c8 : 0 ≤ x7_1
     ·rw [if_pos c8] at H
      have c8b0 : decide (0 ≤ x7_1) = true := decide_eq_true c8
      clear c8
      by_cases c9 : x5_1.length < 8796093022208
      ·rw [if_pos c9] at H
       have LMc9 := am c9
       clear c9
       obtain ⟨y230, hy230⟩ : ∃ y_ : List (S37), y_ = (x5_1 ++ [(⟨(rd_T37 l0 x7_1).f0, (rd_T37 l0 x7_1).f1⟩ : S37)]) := ⟨_, rfl⟩
       replace H : (spec_l02Insert.l0 k1 l0 y230 true (wrap64 (x7_1 + 1)) a1_0 a1_1) = some r := by first | (rw [hy230]; with_reducible exact H) | (have H2_ := (Option.bind_some _ _).symm.trans H; rw [hy230]; with_reducible exact H2_) | (have H2_ := (Option.bind_some _ _).symm.trans H; with_reducible exact H2_) | with_reducible exact H | (rw [hy230]; exact H) | exact H
       have Ny230 := am hy230
       clear hy230
       have H' := am H
       clear H
       try go_wp2
       have n0_ := am (Kd.R_drew HO_5.out)
       have n1_ := am (k3 BK225.out)
       have n2_ := am (b3 HB.out)
       clear HO_5
       clear BK225
       clear HB
       have HO_5 := n0_
       have BK225 := n1_
       have HB := n2_
       clear n0_ n1_ n2_
       refine start_ (n := 10) (S := fun w' => True) (ds := []) spec_l02Insert.m0 (by kernel_rfl) rfl rfl trivial (fun hHeld => ?_); refine with_tabW spec_l02Insert.tab6 spec_l02Insert.bits6 (fun HT_ HW_ => ?_)
       generalize wr.drew = w10 at HO_5 BK225 HB hHeld ⊢
       refine pure_ (i := 0) (N := some 15) (v := ?_) (a' := ?_) spec_l02Insert.m1 rfl rfl (any_of HT_.out (by kernel_rfl)) (fun _ _ _ h => h) (Or.inl ⟨by rfl, ?_⟩) ?_ ?_
       rotate_left
       ·intro w'
        go_simp
        with_reducible rfl
       rotate_left
       ·simp only [Act.put, sa, i64_w, i32_w]
        rfl
       refine pure_ (i := 1) (N := some 16) (v := ?_) (a' := ?_) spec_l02Insert.m2 rfl rfl (any_of HT_.out (by kernel_rfl)) (fun _ _ _ h => h) (Or.inl ⟨by rfl, ?_⟩) ?_ ?_
       rotate_left
       ·intro w'
        go_simp
        with_reducible rfl
       rotate_left
       ·simp only [Act.put, sa, i64_w, i32_w]
        rfl
       refine pure_ (i := 2) (N := some 17) (v := ?_) (a' := ?_) spec_l02Insert.m3 rfl rfl (any_of HT_.out (by kernel_rfl)) (fun _ _ _ h => h) (Or.inl ⟨by rfl, ?_⟩) ?_ ?_
       rotate_left
       ·intro w'
        go_simp
        with_reducible rfl
       rotate_left
       ·simp only [Act.put, sa, i64_w, i32_w]
        rfl
       refine pure_ (i := 3) (N := some 18) (v := undef) (a' := ?_) #[true, true, true, true, false, false, false, false, false, false] rfl rfl (any_of HT_.out (by kernel_rfl)) (fun _ _ _ h => h) (Or.inr ⟨by rfl, rfl⟩) ?_ ?_
       rotate_left
       ·simp only [Act.put, sa, i64_w, i32_w]
        rfl
       refine pure_ (i := 4) (N := some 19) (v := undef) (a' := ?_) #[true, true, true, true, true, false, false, false, false, false] rfl rfl (any_of HT_.out (by kernel_rfl)) (fun _ _ _ h => h) (Or.inr ⟨by rfl, rfl⟩) ?_ ?_
       rotate_left
       ·simp only [Act.put, sa, i64_w, i32_w]
        rfl
       refine pure_ (i := 5) (N := some 20) (v := undef) (a' := ?_) #[true, true, true, true, true, true, false, false, false, false] rfl rfl (any_of HT_.out (by kernel_rfl)) (fun _ _ _ h => h) (Or.inr ⟨by rfl, rfl⟩) ?_ ?_
       rotate_left
       ·simp only [Act.put, sa, i64_w, i32_w]
        rfl
       refine pure_ (i := 6) (N := some 21) (v := undef) (a' := ?_) spec_l02Insert.m7 rfl rfl (any_of HT_.out (by kernel_rfl)) (fun _ _ _ h => h) (Or.inr ⟨by rfl, rfl⟩) ?_ ?_
       rotate_left
       ·simp only [Act.put, sa, i64_w, i32_w]
        rfl
       refine pure_ (i := 7) (N := some 22) (v := undef) (a' := ?_) spec_l02Insert.m8 rfl rfl (any_of HT_.out (by kernel_rfl)) (fun _ _ _ h => h) (Or.inr ⟨by rfl, rfl⟩) ?_ ?_
       rotate_left
       ·simp only [Act.put, sa, i64_w, i32_w]
        rfl
       refine pure_ (i := 8) (N := some 23) (v := undef) (a' := ?_) spec_l02Insert.m9 rfl rfl (any_of HT_.out (by kernel_rfl)) (fun _ _ _ h => h) (Or.inr ⟨by rfl, rfl⟩) ?_ ?_
       rotate_left
       ·simp only [Act.put, sa, i64_w, i32_w]
        rfl
       refine pure_ (i := 9) (N := some 24) (v := ?_) (a' := ?_) spec_l02Insert.m10 rfl rfl (any_of HT_.out (by kernel_rfl)) (fun _ _ _ h => h) (Or.inl ⟨by rfl, ?_⟩) ?_ ?_
       rotate_left
       ·intro w'
        go_simp
        with_reducible rfl
       rotate_left
       ·simp only [Act.put, sa, i64_w, i32_w]
        rfl
       refine done_ (done_of HT_.out (by kernel_rfl)) ?_
       have p229 : 0 ≤ (x7_1 : Int) := of_decide_eq_true (by first | (with_reducible assumption) | assumption)
       have q229 : x7_1 < (l0.length : Int) := of_decide_eq_true (by first | (with_reducible assumption) | assumption)
       obtain ⟨ad229, e229, hx229_0, hx229_1⟩ := at_T37 HR0.out x7_1 p229 q229
       cases e229
       replace hx229_0 := pc HB.out hx229_0
       replace hx229_1 := pc HB.out hx229_1
       replace p229 := eq_true p229
       replace q229 := eq_true q229
       try go_wp2_with (first | ((with_reducible refine gate_builtin (b := .append) (xs := #[.tmp 29, .tmp 34]) rfl ?_); at_builtin; refine Kd.R_append k37 (w0 := w) w.heap.size rfl (.tmp 29) (.tmp 34) 28 37 (.agg #[(.int .i64 0), (.int .i64 0)]) 16 rfl Try.underlying28 info37 rfl (by decide) (by omega) u5 x5_1 (⟨(rd_T37 l0 x7_1).f0, (rd_T37 l0 x7_1).f1⟩ : S37) [.int .i64 ((rd_T37 l0 x7_1).f0), .int .i64 ((rd_T37 l0 x7_1).f1)] (fun k_ => k_ ≠ gb225) (fun _ => False) rfl rfl ?aP (fun _ hk => hk.elim) ?aF ?aO ?aB ?aS ?aL ?_; (case aP => exact k37_mkM _ _ _ (⟨(rd_T37 l0 x7_1).f0, (rd_T37 l0 x7_1).f1⟩ : S37)); (case aB => exact (by repeat (first | (with_reducible first | exact HB.out | apply b1 | apply b2 | apply b3 | refine b4 ?_ GE225.out) | exact HB.out))); (case aF => exact (fun k_ hk => Kd.freshB (g := gb225) (o := .cells #[.int .i64 a1_0, .int .i64 a1_1] 37 (0, 0)) (by (with_reducible repeat (first | refine k2 ?_ _ | refine k3 ?_ | refine k1 ?_ _)); exact BK225.out) k_ hk)); (case aO => exact (by (with_reducible repeat (first | apply Kd.R_alloc | apply Kd.R_drewN | apply Kd.R_drew)); exact HO_5.out)); (case aS => exact (b5 (by repeat (first | (with_reducible first | exact HB.out | apply b1 | apply b2 | apply b3 | refine b4 ?_ GE225.out) | exact HB.out)))); (case aL => have := LMc9.out; omega); intro v231 w11 ho hb hg hat; rw [← Ny230.out] at ho; have n0_ := am (blk_grown (g := gb225) (o := .cells #[.int .i64 a1_0, .int .i64 a1_1] 37 (0, 0)) (by (with_reducible repeat (first | refine k2 ?_ _ | refine k3 ?_ | refine k1 ?_ _)); exact BK225.out) hg (Kd.R_away HO_5.out (fun _ hk => hk))); have n1_ := am (hb); have n2_ := am (ho); clear BK225; clear HB; clear HO_5; have BK225 := n0_; have HB := n1_; have HO232 := n2_; clear n0_ n1_ n2_; clear ho hb hg hat))
       go_roundg k1
       case measure => have := HK1.out; omega
       case rel => exact ⟨(y230), (true), (wrap64 (x7_1 + 1)), (by first | rfl | (simp; done) | (simp [*]; done)), (by first | rfl | (simp; done) | (simp [*]; done)), H', ⟨by have := HK1.out; omega⟩, ⟨by (with_reducible repeat (first | apply Kd.R_alloc | apply Kd.R_drewN | apply Kd.R_drew)); exact HO232.out⟩, ⟨by (with_reducible repeat (first | refine k2 ?_ _ | refine k3 ?_ | refine k1 ?_ _)); exact BK225.out⟩, ⟨by repeat (first | (with_reducible first | exact HB.out | apply b1 | apply b2 | apply b3 | refine b4 ?_ GE225.out) | exact HB.out)⟩⟩
      ·rw [if_neg c9] at H
       exact absurd H (by simp)
     ·rw [if_neg c8] at H
      exact absurd H (by simp)
    ·replace c7 := ef c7
     subst c7
     have H1 : (if 0 ≤ x7_1 then ((spec_l02Less.f a1_0 a1_1 ((rd_T37 l0 x7_1).f0) ((rd_T37 l0 x7_1).f1)).bind fun t234 => (if t234 = true then (if x5_1.length < 8796093022208 then ((some (x5_1 ++ [(⟨a1_0, a1_1⟩ : S37)] : List (S37))).bind fun y235 => (if y235.length < 8796093022208 then (spec_l02Insert.l0 k1 l0 (y235 ++ [(⟨(rd_T37 l0 x7_1).f0, (rd_T37 l0 x7_1).f1⟩ : S37)]) true (wrap64 (x7_1 + 1)) a1_0 a1_1) else (none))) else (none)) else (if x5_1.length < 8796093022208 then (spec_l02Insert.l0 k1 l0 (x5_1 ++ [(⟨(rd_T37 l0 x7_1).f0, (rd_T37 l0 x7_1).f1⟩ : S37)]) false (wrap64 (x7_1 + 1)) a1_0 a1_1) else (none)))) else (none)) = some r := by first | (rw [if_neg (show ¬ (false = true) by decide)] at H; exact H) | rfl
     clear H
     have H := H1
     clear H1
     by_cases c12 : 0 ≤ x7_1
     ·rw [if_pos c12] at H
      have c12b0 : decide (0 ≤ x7_1) = true := decide_eq_true c12
      clear c12
      replace H := ob H
      obtain ⟨t234, A130, H⟩ := H
      replace H : (if t234 = true then (if x5_1.length < 8796093022208 then ((some (x5_1 ++ [(⟨a1_0, a1_1⟩ : S37)] : List (S37))).bind fun y235 => (if y235.length < 8796093022208 then (spec_l02Insert.l0 k1 l0 (y235 ++ [(⟨(rd_T37 l0 x7_1).f0, (rd_T37 l0 x7_1).f1⟩ : S37)]) true (wrap64 (x7_1 + 1)) a1_0 a1_1) else (none))) else (none)) else (if x5_1.length < 8796093022208 then (spec_l02Insert.l0 k1 l0 (x5_1 ++ [(⟨(rd_T37 l0 x7_1).f0, (rd_T37 l0 x7_1).f1⟩ : S37)]) false (wrap64 (x7_1 + 1)) a1_0 a1_1) else (none))) = some r := H
      have A13 := am A130
      clear A130
      by_cases c14 : t234 = true
      ·subst c14
       have H1 : (if x5_1.length < 8796093022208 then ((some (x5_1 ++ [(⟨a1_0, a1_1⟩ : S37)] : List (S37))).bind fun y235 => (if y235.length < 8796093022208 then (spec_l02Insert.l0 k1 l0 (y235 ++ [(⟨(rd_T37 l0 x7_1).f0, (rd_T37 l0 x7_1).f1⟩ : S37)]) true (wrap64 (x7_1 + 1)) a1_0 a1_1) else (none))) else (none)) = some r := by first | (rw [if_pos rfl] at H; exact H) | rfl
       clear H
       have H := H1
       clear H1
       by_cases c15 : x5_1.length < 8796093022208
       ·rw [if_pos c15] at H
        have LMc15 := am c15
        clear c15
        obtain ⟨y235, hy235⟩ : ∃ y_ : List (S37), y_ = (x5_1 ++ [(⟨a1_0, a1_1⟩ : S37)]) := ⟨_, rfl⟩
        replace H : (if y235.length < 8796093022208 then (spec_l02Insert.l0 k1 l0 (y235 ++ [(⟨(rd_T37 l0 x7_1).f0, (rd_T37 l0 x7_1).f1⟩ : S37)]) true (wrap64 (x7_1 + 1)) a1_0 a1_1) else (none)) = some r := by first | (rw [hy235]; with_reducible exact H) | (have H2_ := (Option.bind_some _ _).symm.trans H; rw [hy235]; with_reducible exact H2_) | (have H2_ := (Option.bind_some _ _).symm.trans H; with_reducible exact H2_) | with_reducible exact H | (rw [hy235]; exact H) | exact H
        have Ny235 := am hy235
        clear hy235
        by_cases c16 : y235.length < 8796093022208
        ·rw [if_pos c16] at H
         have LMc16 := am c16
         clear c16
         obtain ⟨y239, hy239⟩ : ∃ y_ : List (S37), y_ = (y235 ++ [(⟨(rd_T37 l0 x7_1).f0, (rd_T37 l0 x7_1).f1⟩ : S37)]) := ⟨_, rfl⟩
         replace H : (spec_l02Insert.l0 k1 l0 y239 true (wrap64 (x7_1 + 1)) a1_0 a1_1) = some r := by first | (rw [hy239]; with_reducible exact H) | (have H2_ := (Option.bind_some _ _).symm.trans H; rw [hy239]; with_reducible exact H2_) | (have H2_ := (Option.bind_some _ _).symm.trans H; with_reducible exact H2_) | with_reducible exact H | (rw [hy239]; exact H) | exact H
         have Ny239 := am hy239
         clear hy239
         have H' := am H
         clear H
         try go_wp2
         have n0_ := am (Kd.R_drew HO_5.out)
         have n1_ := am (k3 BK225.out)
         have n2_ := am (b3 HB.out)
         clear HO_5
         clear BK225
         clear HB
         have HO_5 := n0_
         have BK225 := n1_
         have HB := n2_
         clear n0_ n1_ n2_
         have p233 : 0 ≤ (x7_1 : Int) := of_decide_eq_true (by first | (with_reducible assumption) | assumption)
         have q233 : x7_1 < (l0.length : Int) := of_decide_eq_true (by first | (with_reducible assumption) | assumption)
         obtain ⟨ad233, e233, hx233_0, hx233_1⟩ := at_T37 HR0.out x7_1 p233 q233
         have hw233_1 := hx233_1
         have hw233_0 := hx233_0
         cases e233
         replace hx233_0 := pc HB.out hx233_0
         replace hx233_1 := pc HB.out hx233_1
         replace p233 := eq_true p233
         replace q233 := eq_true q233
         refine start_ (n := 10) (S := fun w' => w'.cell? ⟨gb225, 0, none⟩ = some (.int .i64 a1_0) ∧ w'.cell? ⟨gb225, 1, none⟩ = some (.int .i64 a1_1) ∧ w'.cell? (ad233.add ((x7_1).toNat * 2)) = some (.int .i64 ((rd_T37 l0 x7_1).f0)) ∧ w'.cell? ⟨(ad233.add ((x7_1).toNat * 2)).block, (ad233.add ((x7_1).toNat * 2)).off + 1, none⟩ = some (.int .i64 ((rd_T37 l0 x7_1).f1))) (ds := []) spec_l02Insert.m0 (by kernel_rfl) rfl rfl ⟨(kc BK225.out 0).trans rfl, (kc BK225.out 1).trans rfl, (pc HB.out hw233_0), (pc HB.out hw233_1)⟩ (fun hHeld => ?_); refine with_tabW spec_l02Insert.tab6 spec_l02Insert.bits6 (fun HT_ HW_ => ?_)
         generalize wr.drew = w17 at HO_5 BK225 HB hx233_0 hx233_1 hHeld ⊢
         refine pure_ (i := 0) (N := some 15) (v := ?_) (a' := ?_) spec_l02Insert.m1 rfl rfl (any_of HT_.out (by kernel_rfl)) (fun _ _ _ h => h) (Or.inl ⟨by rfl, ?_⟩) ?_ ?_
         rotate_left
         ·intro w'
          go_simp
          with_reducible rfl
         rotate_left
         ·simp only [Act.put, sa, i64_w, i32_w]
          rfl
         refine pure_ (i := 1) (N := some 16) (v := ?_) (a' := ?_) spec_l02Insert.m2 rfl rfl (any_of HT_.out (by kernel_rfl)) (fun _ _ _ h => h) (Or.inl ⟨by rfl, ?_⟩) ?_ ?_
         rotate_left
         ·intro w'
          go_simp
          with_reducible rfl
         rotate_left
         ·simp only [Act.put, sa, i64_w, i32_w]
          rfl
         refine pure_ (i := 2) (N := some 17) (v := ?_) (a' := ?_) spec_l02Insert.m3 rfl rfl (any_of HT_.out (by kernel_rfl)) (fun _ _ _ h => h) (Or.inl ⟨by rfl, ?_⟩) ?_ ?_
         rotate_left
         ·intro w'
          go_simp
          with_reducible rfl
         rotate_left
         ·simp only [Act.put, sa, i64_w, i32_w]
          rfl
         refine pure_ (i := 4) (N := some 19) (v := ?_) (a' := ?_) spec_l02Insert.m4 rfl rfl (any_of HT_.out (by kernel_rfl)) (fun _ _ _ h => h) (Or.inl ⟨by rfl, ?_⟩) ?_ ?_
         rotate_left
         ·intro w'
          go_simp
          with_reducible rfl
         rotate_left
         ·simp only [Act.put, sa, i64_w, i32_w]
          rfl
         refine pure_ (i := 5) (N := some 20) (v := ?_) (a' := ?_) spec_l02Insert.m5 rfl rfl (any_of HT_.out (by kernel_rfl)) (fun _ _ _ h => h) (Or.inl ⟨by rfl, ?_⟩) ?_ ?_
         rotate_left
         ·intro w'
          go_simp
          with_reducible rfl
         rotate_left
         ·simp only [Act.put, sa, i64_w, i32_w]
          rfl
         refine pure_ (i := 6) (N := some 21) (v := ?_) (a' := ?_) spec_l02Insert.m6 rfl rfl (any_of HT_.out (by kernel_rfl)) (fun _ _ _ h => h) (Or.inl ⟨by rfl, ?_⟩) ?_ ?_
         rotate_left
         ·intro w'
          go_simp
          with_reducible rfl
         rotate_left
         ·simp only [Act.put, sa, i64_w, i32_w]
          rfl
         refine take_ (i := 3) (N := some 18) (v := ?_) (a' := ?_) spec_l02Insert.m7 rfl rfl (take_ofW HT_.out HW_.out (by kernel_rfl)) (fun _ _ _ h => h) (Or.inl ⟨by rfl, ?_⟩) hHeld ?_ ?_
         rotate_left
         ·rintro w' ⟨s0, s1, s2, s3⟩
          go_simp
          with_reducible rfl
         rotate_left
         ·simp only [Act.put, sa, i64_w, i32_w]
          rfl
         refine take_ (i := 7) (N := some 22) (v := ?_) (a' := ?_) spec_l02Insert.m8 rfl rfl (take_ofW HT_.out HW_.out (by kernel_rfl)) (fun _ _ _ h => h) (Or.inl ⟨by rfl, ?_⟩) hHeld ?_ ?_
         rotate_left
         ·rintro w' ⟨s0, s1, s2, s3⟩
          go_simp
          with_reducible rfl
         rotate_left
         ·simp only [Act.put, sa, i64_w, i32_w]
          rfl
         refine one_ (i := 8) (N := some 23) spec_l02Insert.m9 rfl rfl (one_of HT_.out (by kernel_rfl)) (by decide) (fun K hK => ?_)
         refine goes_ Try.func40 (by kernel_rfl) rfl #[.agg #[.int .i64 a1_0, .int .i64 a1_1], .agg #[.int .i64 ((rd_T37 l0 x7_1).f0), .int .i64 ((rd_T37 l0 x7_1).f1)]] (by rfl) rfl rfl (by (try simp only [List.map_toArray, List.map_cons, List.map_nil]); first | done | rfl | (simp only [List.length_drop, List.length_take]; rfl)) ?_
         with_reducible refine (spec_l02Less.calls a1_0 a1_1 ((rd_T37 l0 x7_1).f0) ((rd_T37 l0 x7_1).f1) true _ A13.out).mono ?_
         rintro e w18 ⟨rfl, hb⟩
         refine ⟨_, rfl, ?_⟩
         have n0_ := am (Kd.R_below (by (with_reducible repeat (first | apply Kd.R_alloc | apply Kd.R_drewN | apply Kd.R_drew)); exact HO_5.out) hb)
         have n1_ := am (k4 (g := gb225) (o := .cells #[.int .i64 a1_0, .int .i64 a1_1] 37 (0, 0)) (by (with_reducible repeat (first | refine k2 ?_ _ | refine k3 ?_ | refine k1 ?_ _)); exact BK225.out) hb)
         have n2_ := am (b6 (by repeat (first | (with_reducible first | exact HB.out | apply b1 | apply b2 | apply b3 | refine b4 ?_ GE225.out) | exact HB.out)) hb)
         clear HO_5
         clear BK225
         clear HB
         have HO_5 := n0_
         have BK225 := n1_
         have HB := n2_
         clear n0_ n1_ n2_
         (try clear hb)
         (try clear hb2)
         (try clear hk)
         (try clear hi)
         refine hK.out _ _ ⟨(kc BK225.out 0).trans rfl, (kc BK225.out 1).trans rfl, (pc HB.out hw233_0), (pc HB.out hw233_1)⟩ (fun hHeld => ?_)
         clear hK K
         refine norm_ (a' := ?_) ?_ ?_
         rotate_left
         ·show Act.put _ (some 23) _ = _
          simp only [Act.put, sa, i64_w, i32_w]
          rfl
         refine pure_ (i := 9) (N := some 24) (v := ?_) (a' := ?_) spec_l02Insert.m10 rfl rfl (any_of HT_.out (by kernel_rfl)) (fun _ _ _ h => h) (Or.inl ⟨by rfl, ?_⟩) ?_ ?_
         rotate_left
         ·intro w'
          go_simp
          with_reducible rfl
         rotate_left
         ·simp only [Act.put, sa, i64_w, i32_w]
          rfl
         refine done_ (done_of HT_.out (by kernel_rfl)) ?_
         have hcz19_0 : w18.cell? ⟨gb225, 0, none⟩ = some (.int .i64 a1_0) := (kc BK225.out 0).trans rfl
         have hcz19_1 : w18.cell? ⟨gb225, 1, none⟩ = some (.int .i64 a1_1) := (kc BK225.out 1).trans rfl
         have hfz19_0 := kf BK225.out 0
         have hfz19_1 := kf BK225.out 1
         try go_wp2_with (first | ((with_reducible refine gate_builtin (b := .append) (xs := #[.tmp 25, .tmp 27]) rfl ?_); at_builtin; refine Kd.R_append k37 (w0 := w) w.heap.size rfl (.tmp 25) (.tmp 27) 28 37 (.agg #[(.int .i64 0), (.int .i64 0)]) 16 rfl Try.underlying28 info37 rfl (by decide) (by omega) u5 x5_1 (⟨a1_0, a1_1⟩ : S37) [.int .i64 a1_0, .int .i64 a1_1] (fun k_ => k_ ≠ gb225) (fun _ => False) rfl rfl ?aP (fun _ hk => hk.elim) ?aF ?aO ?aB ?aS ?aL ?_; (case aP => exact k37_mkM _ _ _ (⟨a1_0, a1_1⟩ : S37)); (case aB => exact (by repeat (first | (with_reducible first | exact HB.out | apply b1 | apply b2 | apply b3 | refine b4 ?_ GE225.out) | exact HB.out))); (case aF => exact (fun k_ hk => Kd.freshB (g := gb225) (o := .cells #[.int .i64 a1_0, .int .i64 a1_1] 37 (0, 0)) (by (with_reducible repeat (first | refine k2 ?_ _ | refine k3 ?_ | refine k1 ?_ _)); exact BK225.out) k_ hk)); (case aO => exact (by (with_reducible repeat (first | apply Kd.R_alloc | apply Kd.R_drewN | apply Kd.R_drew)); exact HO_5.out)); (case aS => exact (b5 (by repeat (first | (with_reducible first | exact HB.out | apply b1 | apply b2 | apply b3 | refine b4 ?_ GE225.out) | exact HB.out)))); (case aL => have := LMc15.out; omega); intro v236 w20 ho hb hg hat; rw [← Ny235.out] at ho; have n0_ := am (blk_grown (g := gb225) (o := .cells #[.int .i64 a1_0, .int .i64 a1_1] 37 (0, 0)) (by (with_reducible repeat (first | refine k2 ?_ _ | refine k3 ?_ | refine k1 ?_ _)); exact BK225.out) hg (Kd.R_away HO_5.out (fun _ hk => hk))); have n1_ := am (hb); have n2_ := am (ho); clear BK225; clear HB; clear HO_5; have BK225 := n0_; have HB := n1_; have HO237 := n2_; clear n0_ n1_ n2_; clear ho hb hg hat; have p238 : 0 ≤ (x7_1 : Int) := of_decide_eq_true (by first | (with_reducible assumption) | assumption); have q238 : x7_1 < (l0.length : Int) := of_decide_eq_true (by first | (with_reducible assumption) | assumption); obtain ⟨ad238, e238, hx238_0, hx238_1⟩ := at_T37 HR0.out x7_1 p238 q238; obtain rfl : ad233 = ad238 := (by injection e238); replace hx238_0 := pc HB.out hx238_0; replace hx238_1 := pc HB.out hx238_1; replace p238 := eq_true p238; replace q238 := eq_true q238) | ((with_reducible refine gate_builtin (b := .append) (xs := #[.tmp 29, .tmp 34]) rfl ?_); at_builtin; refine Kd.R_append k37 (w0 := w) w.heap.size rfl (.tmp 29) (.tmp 34) 28 37 (.agg #[(.int .i64 0), (.int .i64 0)]) 16 rfl Try.underlying28 info37 rfl (by decide) (by omega) v236 y235 (⟨(rd_T37 l0 x7_1).f0, (rd_T37 l0 x7_1).f1⟩ : S37) [.int .i64 ((rd_T37 l0 x7_1).f0), .int .i64 ((rd_T37 l0 x7_1).f1)] (fun k_ => k_ ≠ gb225) (fun _ => False) rfl rfl ?aP (fun _ hk => hk.elim) ?aF ?aO ?aB ?aS ?aL ?_; (case aP => exact k37_mkM _ _ _ (⟨(rd_T37 l0 x7_1).f0, (rd_T37 l0 x7_1).f1⟩ : S37)); (case aB => exact (by repeat (first | (with_reducible first | exact HB.out | apply b1 | apply b2 | apply b3 | refine b4 ?_ GE225.out) | exact HB.out))); (case aF => exact (fun k_ hk => Kd.freshB (g := gb225) (o := .cells #[.int .i64 a1_0, .int .i64 a1_1] 37 (0, 0)) (by (with_reducible repeat (first | refine k2 ?_ _ | refine k3 ?_ | refine k1 ?_ _)); exact BK225.out) k_ hk)); (case aO => exact (by (with_reducible repeat (first | apply Kd.R_alloc | apply Kd.R_drewN | apply Kd.R_drew)); exact HO237.out)); (case aS => exact (b5 (by repeat (first | (with_reducible first | exact HB.out | apply b1 | apply b2 | apply b3 | refine b4 ?_ GE225.out) | exact HB.out)))); (case aL => have := LMc16.out; omega); intro v240 w21 ho hb hg hat; rw [← Ny239.out] at ho; have n0_ := am (blk_grown (g := gb225) (o := .cells #[.int .i64 a1_0, .int .i64 a1_1] 37 (0, 0)) (by (with_reducible repeat (first | refine k2 ?_ _ | refine k3 ?_ | refine k1 ?_ _)); exact BK225.out) hg (Kd.R_away HO237.out (fun _ hk => hk))); have n1_ := am (hb); have n2_ := am (ho); clear BK225; clear HB; clear HO237; have BK225 := n0_; have HB := n1_; have HO241 := n2_; clear n0_ n1_ n2_; clear ho hb hg hat))
         go_roundg k1
         case measure => have := HK1.out; omega
         case rel => exact ⟨(y239), (true), (wrap64 (x7_1 + 1)), (by first | rfl | (simp; done) | (simp [*]; done)), (by first | rfl | (simp; done) | (simp [*]; done)), H', ⟨by have := HK1.out; omega⟩, ⟨by (with_reducible repeat (first | apply Kd.R_alloc | apply Kd.R_drewN | apply Kd.R_drew)); exact HO241.out⟩, ⟨by (with_reducible repeat (first | refine k2 ?_ _ | refine k3 ?_ | refine k1 ?_ _)); exact BK225.out⟩, ⟨by repeat (first | (with_reducible first | exact HB.out | apply b1 | apply b2 | apply b3 | refine b4 ?_ GE225.out) | exact HB.out)⟩⟩
        ·rw [if_neg c16] at H
         exact absurd H (by simp)
       ·rw [if_neg c15] at H
        exact absurd H (by simp)
      ·replace c14 := ef c14
       subst c14
       have H1 : (if x5_1.length < 8796093022208 then (spec_l02Insert.l0 k1 l0 (x5_1 ++ [(⟨(rd_T37 l0 x7_1).f0, (rd_T37 l0 x7_1).f1⟩ : S37)]) false (wrap64 (x7_1 + 1)) a1_0 a1_1) else (none)) = some r := by first | (rw [if_neg (show ¬ (false = true) by decide)] at H; exact H) | rfl
       clear H
       have H := H1
       clear H1
       by_cases c22 : x5_1.length < 8796093022208
       ·rw [if_pos c22] at H
        have LMc22 := am c22
        clear c22
        obtain ⟨y243, hy243⟩ : ∃ y_ : List (S37), y_ = (x5_1 ++ [(⟨(rd_T37 l0 x7_1).f0, (rd_T37 l0 x7_1).f1⟩ : S37)]) := ⟨_, rfl⟩
        replace H : (spec_l02Insert.l0 k1 l0 y243 false (wrap64 (x7_1 + 1)) a1_0 a1_1) = some r := by first | (rw [hy243]; with_reducible exact H) | (have H2_ := (Option.bind_some _ _).symm.trans H; rw [hy243]; with_reducible exact H2_) | (have H2_ := (Option.bind_some _ _).symm.trans H; with_reducible exact H2_) | with_reducible exact H | (rw [hy243]; exact H) | exact H
        have Ny243 := am hy243
        clear hy243
        have H' := am H
        clear H
        try go_wp2
        have n0_ := am (Kd.R_drew HO_5.out)
        have n1_ := am (k3 BK225.out)
        have n2_ := am (b3 HB.out)
        clear HO_5
        clear BK225
        clear HB
        have HO_5 := n0_
        have BK225 := n1_
        have HB := n2_
        clear n0_ n1_ n2_
        have p233 : 0 ≤ (x7_1 : Int) := of_decide_eq_true (by first | (with_reducible assumption) | assumption)
        have q233 : x7_1 < (l0.length : Int) := of_decide_eq_true (by first | (with_reducible assumption) | assumption)
        obtain ⟨ad233, e233, hx233_0, hx233_1⟩ := at_T37 HR0.out x7_1 p233 q233
        have hw233_1 := hx233_1
        have hw233_0 := hx233_0
        cases e233
        replace hx233_0 := pc HB.out hx233_0
        replace hx233_1 := pc HB.out hx233_1
        replace p233 := eq_true p233
        replace q233 := eq_true q233
        refine start_ (n := 10) (S := fun w' => w'.cell? ⟨gb225, 0, none⟩ = some (.int .i64 a1_0) ∧ w'.cell? ⟨gb225, 1, none⟩ = some (.int .i64 a1_1) ∧ w'.cell? (ad233.add ((x7_1).toNat * 2)) = some (.int .i64 ((rd_T37 l0 x7_1).f0)) ∧ w'.cell? ⟨(ad233.add ((x7_1).toNat * 2)).block, (ad233.add ((x7_1).toNat * 2)).off + 1, none⟩ = some (.int .i64 ((rd_T37 l0 x7_1).f1))) (ds := []) spec_l02Insert.m0 (by kernel_rfl) rfl rfl ⟨(kc BK225.out 0).trans rfl, (kc BK225.out 1).trans rfl, (pc HB.out hw233_0), (pc HB.out hw233_1)⟩ (fun hHeld => ?_); refine with_tabW spec_l02Insert.tab6 spec_l02Insert.bits6 (fun HT_ HW_ => ?_)
        generalize wr.drew = w23 at HO_5 BK225 HB hx233_0 hx233_1 hHeld ⊢
        refine pure_ (i := 0) (N := some 15) (v := ?_) (a' := ?_) spec_l02Insert.m1 rfl rfl (any_of HT_.out (by kernel_rfl)) (fun _ _ _ h => h) (Or.inl ⟨by rfl, ?_⟩) ?_ ?_
        rotate_left
        ·intro w'
         go_simp
         with_reducible rfl
        rotate_left
        ·simp only [Act.put, sa, i64_w, i32_w]
         rfl
        refine pure_ (i := 1) (N := some 16) (v := ?_) (a' := ?_) spec_l02Insert.m2 rfl rfl (any_of HT_.out (by kernel_rfl)) (fun _ _ _ h => h) (Or.inl ⟨by rfl, ?_⟩) ?_ ?_
        rotate_left
        ·intro w'
         go_simp
         with_reducible rfl
        rotate_left
        ·simp only [Act.put, sa, i64_w, i32_w]
         rfl
        refine pure_ (i := 2) (N := some 17) (v := ?_) (a' := ?_) spec_l02Insert.m3 rfl rfl (any_of HT_.out (by kernel_rfl)) (fun _ _ _ h => h) (Or.inl ⟨by rfl, ?_⟩) ?_ ?_
        rotate_left
        ·intro w'
         go_simp
         with_reducible rfl
        rotate_left
        ·simp only [Act.put, sa, i64_w, i32_w]
         rfl
        refine pure_ (i := 4) (N := some 19) (v := ?_) (a' := ?_) spec_l02Insert.m4 rfl rfl (any_of HT_.out (by kernel_rfl)) (fun _ _ _ h => h) (Or.inl ⟨by rfl, ?_⟩) ?_ ?_
        rotate_left
        ·intro w'
         go_simp
         with_reducible rfl
        rotate_left
        ·simp only [Act.put, sa, i64_w, i32_w]
         rfl
        refine pure_ (i := 5) (N := some 20) (v := ?_) (a' := ?_) spec_l02Insert.m5 rfl rfl (any_of HT_.out (by kernel_rfl)) (fun _ _ _ h => h) (Or.inl ⟨by rfl, ?_⟩) ?_ ?_
        rotate_left
        ·intro w'
         go_simp
         with_reducible rfl
        rotate_left
        ·simp only [Act.put, sa, i64_w, i32_w]
         rfl
        refine pure_ (i := 6) (N := some 21) (v := ?_) (a' := ?_) spec_l02Insert.m6 rfl rfl (any_of HT_.out (by kernel_rfl)) (fun _ _ _ h => h) (Or.inl ⟨by rfl, ?_⟩) ?_ ?_
        rotate_left
        ·intro w'
         go_simp
         with_reducible rfl
        rotate_left
        ·simp only [Act.put, sa, i64_w, i32_w]
         rfl
        refine take_ (i := 3) (N := some 18) (v := ?_) (a' := ?_) spec_l02Insert.m7 rfl rfl (take_ofW HT_.out HW_.out (by kernel_rfl)) (fun _ _ _ h => h) (Or.inl ⟨by rfl, ?_⟩) hHeld ?_ ?_
        rotate_left
        ·rintro w' ⟨s0, s1, s2, s3⟩
         go_simp
         with_reducible rfl
        rotate_left
        ·simp only [Act.put, sa, i64_w, i32_w]
         rfl
        refine take_ (i := 7) (N := some 22) (v := ?_) (a' := ?_) spec_l02Insert.m8 rfl rfl (take_ofW HT_.out HW_.out (by kernel_rfl)) (fun _ _ _ h => h) (Or.inl ⟨by rfl, ?_⟩) hHeld ?_ ?_
        rotate_left
        ·rintro w' ⟨s0, s1, s2, s3⟩
         go_simp
         with_reducible rfl
        rotate_left
        ·simp only [Act.put, sa, i64_w, i32_w]
         rfl
        refine one_ (i := 8) (N := some 23) spec_l02Insert.m9 rfl rfl (one_of HT_.out (by kernel_rfl)) (by decide) (fun K hK => ?_)
        refine goes_ Try.func40 (by kernel_rfl) rfl #[.agg #[.int .i64 a1_0, .int .i64 a1_1], .agg #[.int .i64 ((rd_T37 l0 x7_1).f0), .int .i64 ((rd_T37 l0 x7_1).f1)]] (by rfl) rfl rfl (by (try simp only [List.map_toArray, List.map_cons, List.map_nil]); first | done | rfl | (simp only [List.length_drop, List.length_take]; rfl)) ?_
        with_reducible refine (spec_l02Less.calls a1_0 a1_1 ((rd_T37 l0 x7_1).f0) ((rd_T37 l0 x7_1).f1) false _ A13.out).mono ?_
        rintro e w24 ⟨rfl, hb⟩
        refine ⟨_, rfl, ?_⟩
        have n0_ := am (Kd.R_below (by (with_reducible repeat (first | apply Kd.R_alloc | apply Kd.R_drewN | apply Kd.R_drew)); exact HO_5.out) hb)
        have n1_ := am (k4 (g := gb225) (o := .cells #[.int .i64 a1_0, .int .i64 a1_1] 37 (0, 0)) (by (with_reducible repeat (first | refine k2 ?_ _ | refine k3 ?_ | refine k1 ?_ _)); exact BK225.out) hb)
        have n2_ := am (b6 (by repeat (first | (with_reducible first | exact HB.out | apply b1 | apply b2 | apply b3 | refine b4 ?_ GE225.out) | exact HB.out)) hb)
        clear HO_5
        clear BK225
        clear HB
        have HO_5 := n0_
        have BK225 := n1_
        have HB := n2_
        clear n0_ n1_ n2_
        (try clear hb)
        (try clear hb2)
        (try clear hk)
        (try clear hi)
        refine hK.out _ _ ⟨(kc BK225.out 0).trans rfl, (kc BK225.out 1).trans rfl, (pc HB.out hw233_0), (pc HB.out hw233_1)⟩ (fun hHeld => ?_)
        clear hK K
        refine norm_ (a' := ?_) ?_ ?_
        rotate_left
        ·show Act.put _ (some 23) _ = _
         simp only [Act.put, sa, i64_w, i32_w]
         rfl
        refine pure_ (i := 9) (N := some 24) (v := ?_) (a' := ?_) spec_l02Insert.m10 rfl rfl (any_of HT_.out (by kernel_rfl)) (fun _ _ _ h => h) (Or.inl ⟨by rfl, ?_⟩) ?_ ?_
        rotate_left
        ·intro w'
         go_simp
         with_reducible rfl
        rotate_left
        ·simp only [Act.put, sa, i64_w, i32_w]
         rfl
        refine done_ (done_of HT_.out (by kernel_rfl)) ?_
        have p242 : 0 ≤ (x7_1 : Int) := of_decide_eq_true (by first | (with_reducible assumption) | assumption)
        have q242 : x7_1 < (l0.length : Int) := of_decide_eq_true (by first | (with_reducible assumption) | assumption)
        obtain ⟨ad242, e242, hx242_0, hx242_1⟩ := at_T37 HR0.out x7_1 p242 q242
        obtain rfl : ad233 = ad242 := (by injection e242)
        replace hx242_0 := pc HB.out hx242_0
        replace hx242_1 := pc HB.out hx242_1
        replace p242 := eq_true p242
        replace q242 := eq_true q242
        try go_wp2_with (first | ((with_reducible refine gate_builtin (b := .append) (xs := #[.tmp 29, .tmp 34]) rfl ?_); at_builtin; refine Kd.R_append k37 (w0 := w) w.heap.size rfl (.tmp 29) (.tmp 34) 28 37 (.agg #[(.int .i64 0), (.int .i64 0)]) 16 rfl Try.underlying28 info37 rfl (by decide) (by omega) u5 x5_1 (⟨(rd_T37 l0 x7_1).f0, (rd_T37 l0 x7_1).f1⟩ : S37) [.int .i64 ((rd_T37 l0 x7_1).f0), .int .i64 ((rd_T37 l0 x7_1).f1)] (fun k_ => k_ ≠ gb225) (fun _ => False) rfl rfl ?aP (fun _ hk => hk.elim) ?aF ?aO ?aB ?aS ?aL ?_; (case aP => exact k37_mkM _ _ _ (⟨(rd_T37 l0 x7_1).f0, (rd_T37 l0 x7_1).f1⟩ : S37)); (case aB => exact (by repeat (first | (with_reducible first | exact HB.out | apply b1 | apply b2 | apply b3 | refine b4 ?_ GE225.out) | exact HB.out))); (case aF => exact (fun k_ hk => Kd.freshB (g := gb225) (o := .cells #[.int .i64 a1_0, .int .i64 a1_1] 37 (0, 0)) (by (with_reducible repeat (first | refine k2 ?_ _ | refine k3 ?_ | refine k1 ?_ _)); exact BK225.out) k_ hk)); (case aO => exact (by (with_reducible repeat (first | apply Kd.R_alloc | apply Kd.R_drewN | apply Kd.R_drew)); exact HO_5.out)); (case aS => exact (b5 (by repeat (first | (with_reducible first | exact HB.out | apply b1 | apply b2 | apply b3 | refine b4 ?_ GE225.out) | exact HB.out)))); (case aL => have := LMc22.out; omega); intro v244 w25 ho hb hg hat; rw [← Ny243.out] at ho; have n0_ := am (blk_grown (g := gb225) (o := .cells #[.int .i64 a1_0, .int .i64 a1_1] 37 (0, 0)) (by (with_reducible repeat (first | refine k2 ?_ _ | refine k3 ?_ | refine k1 ?_ _)); exact BK225.out) hg (Kd.R_away HO_5.out (fun _ hk => hk))); have n1_ := am (hb); have n2_ := am (ho); clear BK225; clear HB; clear HO_5; have BK225 := n0_; have HB := n1_; have HO245 := n2_; clear n0_ n1_ n2_; clear ho hb hg hat))
        go_roundg k1
        case measure => have := HK1.out; omega
        case rel => exact ⟨(y243), (false), (wrap64 (x7_1 + 1)), (by first | rfl | (simp; done) | (simp [*]; done)), (by first | rfl | (simp; done) | (simp [*]; done)), H', ⟨by have := HK1.out; omega⟩, ⟨by (with_reducible repeat (first | apply Kd.R_alloc | apply Kd.R_drewN | apply Kd.R_drew)); exact HO245.out⟩, ⟨by (with_reducible repeat (first | refine k2 ?_ _ | refine k3 ?_ | refine k1 ?_ _)); exact BK225.out⟩, ⟨by repeat (first | (with_reducible first | exact HB.out | apply b1 | apply b2 | apply b3 | refine b4 ?_ GE225.out) | exact HB.out)⟩⟩
       ·rw [if_neg c22] at H
        exact absurd H (by simp)
     ·rw [if_neg c12] at H
      exact absurd H (by simp)
   ·rw [if_neg c6] at H
    have c6b0 : decide (x7_1 < (l0.length : Int)) = false := decide_eq_false c6
    clear c6
    by_cases c26 : x6_1 = true
    ·subst c26
     have H1 : (some x5_1) = some r := by first | (rw [if_pos rfl] at H; exact H) | rfl
     clear H
     have H := H1
     clear H1
     obtain rfl := oi H
     go_wp2
     go_ret
     exact ⟨_, by first | rfl | (simp [errW_none, errW_some] <;> rfl) | (simp [*, errW_none, errW_some] <;> rfl), by (with_reducible repeat (first | apply Kd.R_alloc | apply Kd.R_drewN | apply Kd.R_drew)); exact Kd.R_mono HO_5.out (fun _ hk => trivial), by repeat (first | (with_reducible first | exact HB.out | apply b1 | apply b2 | apply b3 | refine b4 ?_ GE225.out) | exact HB.out)⟩
    ·replace c26 := ef c26
     subst c26
     have H1 : (if x5_1.length < 8796093022208 then (some (x5_1 ++ [(⟨a1_0, a1_1⟩ : S37)])) else (none)) = some r := by first | (rw [if_neg (show ¬ (false = true) by decide)] at H; exact H) | rfl
     clear H
     have H := H1
     clear H1
     by_cases c27 : x5_1.length < 8796093022208
     ·rw [if_pos c27] at H
      have LMc27 := am c27
      clear c27
      obtain ⟨y246, hy246⟩ : ∃ y_ : List (S37), y_ = (x5_1 ++ [(⟨a1_0, a1_1⟩ : S37)]) := ⟨_, rfl⟩
      replace H : (some y246) = some r := by first | (rw [hy246]; with_reducible exact H) | (have H2_ := (Option.bind_some _ _).symm.trans H; rw [hy246]; with_reducible exact H2_) | (have H2_ := (Option.bind_some _ _).symm.trans H; with_reducible exact H2_) | with_reducible exact H | (rw [hy246]; exact H) | exact H
      have Ny246 := am hy246
      clear hy246
      obtain rfl := oi H
      have hcz28_0 : wr.cell? ⟨gb225, 0, none⟩ = some (.int .i64 a1_0) := (kc BK225.out 0).trans rfl
      have hcz28_1 : wr.cell? ⟨gb225, 1, none⟩ = some (.int .i64 a1_1) := (kc BK225.out 1).trans rfl
      have hfz28_0 := kf BK225.out 0
      have hfz28_1 := kf BK225.out 1
      go_wp2_with (first | ((with_reducible refine gate_builtin (b := .append) (xs := #[.tmp 38, .tmp 40]) rfl ?_); at_builtin; refine Kd.R_append k37 (w0 := w) w.heap.size rfl (.tmp 38) (.tmp 40) 28 37 (.agg #[(.int .i64 0), (.int .i64 0)]) 16 rfl Try.underlying28 info37 rfl (by decide) (by omega) u5 x5_1 (⟨a1_0, a1_1⟩ : S37) [.int .i64 a1_0, .int .i64 a1_1] (fun k_ => k_ ≠ gb225) (fun _ => False) rfl rfl ?aP (fun _ hk => hk.elim) ?aF ?aO ?aB ?aS ?aL ?_; (case aP => exact k37_mkM _ _ _ (⟨a1_0, a1_1⟩ : S37)); (case aB => exact (by repeat (first | (with_reducible first | exact HB.out | apply b1 | apply b2 | apply b3 | refine b4 ?_ GE225.out) | exact HB.out))); (case aF => exact (fun k_ hk => Kd.freshB (g := gb225) (o := .cells #[.int .i64 a1_0, .int .i64 a1_1] 37 (0, 0)) (by (with_reducible repeat (first | refine k2 ?_ _ | refine k3 ?_ | refine k1 ?_ _)); exact BK225.out) k_ hk)); (case aO => exact (by (with_reducible repeat (first | apply Kd.R_alloc | apply Kd.R_drewN | apply Kd.R_drew)); exact HO_5.out)); (case aS => exact (b5 (by repeat (first | (with_reducible first | exact HB.out | apply b1 | apply b2 | apply b3 | refine b4 ?_ GE225.out) | exact HB.out)))); (case aL => have := LMc27.out; omega); intro v247 w29 ho hb hg hat; rw [← Ny246.out] at ho; have n0_ := am (blk_grown (g := gb225) (o := .cells #[.int .i64 a1_0, .int .i64 a1_1] 37 (0, 0)) (by (with_reducible repeat (first | refine k2 ?_ _ | refine k3 ?_ | refine k1 ?_ _)); exact BK225.out) hg (Kd.R_away HO_5.out (fun _ hk => hk))); have n1_ := am (hb); have n2_ := am (ho); clear BK225; clear HB; clear HO_5; have BK225 := n0_; have HB := n1_; have HO248 := n2_; clear n0_ n1_ n2_; clear ho hb hg hat))
      go_ret
      exact ⟨_, by first | rfl | (simp [errW_none, errW_some] <;> rfl) | (simp [*, errW_none, errW_some] <;> rfl), by (with_reducible repeat (first | apply Kd.R_alloc | apply Kd.R_drewN | apply Kd.R_drew)); exact Kd.R_mono HO248.out (fun _ hk => trivial), by repeat (first | (with_reducible first | exact HB.out | apply b1 | apply b2 | apply b3 | refine b4 ?_ GE225.out) | exact HB.out)⟩
     ·rw [if_neg c27] at H
      exact absurd H (by simp)

end Go.Proofs.Ytcgnnfaemjjljaa.Q
