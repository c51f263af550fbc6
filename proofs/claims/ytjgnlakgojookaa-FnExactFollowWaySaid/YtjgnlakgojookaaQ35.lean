/- Written by a program of this session (wip/tools/pp.py) out of the translation, with the kit's printer. -/
import Derived.Test.YtjgnlakgojookaaQ0
import Derived.Test.YtjgnlakgojookaaQ2
import Derived.Test.YtjgnlakgojookaaQ21
import Derived.Test.YtjgnlakgojookaaQ28
import Derived.Test.YtjgnlakgojookaaQ34
namespace Go.Proofs.Ytjgnlakgojookaa.Q
open Go.RowKit Go.Proofs.YtjgnlakgojookaaW.PrintWords Go.Proofs.YtjgnlakgojookaaW.PrintLast Go.Proofs.YtjgnlakgojookaaW.PrintMore
attribute [local go_sem] max2_int min2_int max_two min_two max_three min_three max_four min_four
set_option linter.unusedVariables false
set_option linter.unusedSimpArgs false

/-! ### spec_l27Possible: function 79 -/
def spec_l27Possible.j0 : Nat → List (S71) → Int → Bool → List (List (S71)) → Option (Bool)
 | 0, _, _, _, _ => none
 | k + 1, x1, x2, x23, x453000 => if x23 = true then (some false) else ((spec_l27After.f k x1 x2).bind fun t454 => ((spec_l27Clear.f k x453000 t454).bind fun t457 => (some t457)))
def spec_l27Possible.f (k : Nat) (l0_0 : List (List (S71))) (l1 : List (S71)) (a2 : Int) : Option (Bool) := if 0 ≤ (IntKind.u64.wrap ((l0_0.length : Int))) then ((spec_l01In.f a2 6 (wrap64 ((shl .i64 6 (IntKind.u64.wrap ((l0_0.length : Int)))) - 1))).bind fun t453 => (if t453 = true then (spec_l27Possible.j0 k l1 a2 ((Int.tmod (wrap64 (Int.tdiv a2 6)) 2) == 1) l0_0) else (spec_l27Possible.j0 k l1 a2 true l0_0))) else (none)
theorem spec_l27Possible.mono_l : ∀ k, (∀ y0 y1 y2 y3, LeO (spec_l27Possible.j0 k y0 y1 y2 y3) (spec_l27Possible.j0 (k + 1) y0 y1 y2 y3))
 | 0 => fun _ _ _ _ r h => by simp [spec_l27Possible.j0] at h
 | k + 1 => by
  have ih0 := spec_l27Possible.mono_l k
  ·intro y0 y1 y2 y3
   unfold spec_l27Possible.j0
   repeat' first
   | (with_reducible exact ih0 _ _ _ _)
   | (with_reducible exact spec_l27After.mono _ _ _)
   | (with_reducible exact spec_l27Clear.mono _ _ _)
   | (with_reducible exact LeO.refl _)
   | (with_reducible exact LeO.none _)
   | (with_reducible refine LeO.ite ?_ ?_)
   | (with_reducible refine LeO.bind ?_ (fun _ => ?_))
   | exact ih0 _ _ _ _
   | exact spec_l27After.mono _ _ _
   | exact spec_l27Clear.mono _ _ _
   | exact LeO.none _
   | refine LeO.ite ?_ ?_
   | refine LeO.bind ?_ (fun _ => ?_)
theorem spec_l27Possible.mono : ∀ a0 a1 a2 k, LeO (spec_l27Possible.f k a0 a1 a2) (spec_l27Possible.f (k + 1) a0 a1 a2) := by
 intro a0 a1 a2 k
 have ih0 := spec_l27Possible.mono_l k
 unfold spec_l27Possible.f
 repeat' first
   | (with_reducible exact ih0 _ _ _ _)
   | (with_reducible exact spec_l27After.mono _ _ _)
   | (with_reducible exact spec_l27Clear.mono _ _ _)
   | (with_reducible exact LeO.refl _)
   | (with_reducible exact LeO.none _)
   | (with_reducible refine LeO.ite ?_ ?_)
   | (with_reducible refine LeO.bind ?_ (fun _ => ?_))
   | exact ih0 _ _ _ _
   | exact spec_l27After.mono _ _ _
   | exact spec_l27Clear.mono _ _ _
   | exact LeO.none _
   | refine LeO.ite ?_ ?_
   | refine LeO.bind ?_ (fun _ => ?_)
set_option maxHeartbeats 8000000 in
set_option maxRecDepth 100000 in
theorem spec_l27Possible.calls (k : Nat) (A0_0 : Option Addr) (c0_0 : Nat) (l0_0 : List (List (S71))) (A1 : Option Addr) (c1 : Nat) (l1 : List (S71)) (a2 : Int) (r : Bool) (w : World) (hr0_0 : Kd.C (Kd.slice 71 k71) w A0_0 l0_0.length l0_0) (hc0_0 : l0_0.length ≤ c0_0) (hr1 : Kd.C k71 w A1 l1.length l1) (hc1 : l1.length ≤ c1) (h : spec_l27Possible.f k l0_0 l1 a2 = some r) :
  Calls Try.prog 79 #[.agg #[.slice A0_0 l0_0.length c0_0], .slice A1 l1.length c1, .int .i64 a2] w fun e w' => e = .returned (.bool r) ∧ Below w.heap.size w w' := by
 have hu29 := Try.underlying29
 have HR0_0 := am hr0_0
 have HC0_0 := am hc0_0
 clear hr0_0 hc0_0
 have HR1 := am hr1
 have HC1 := am hc1
 clear hr1 hc1
 have HB := am (Below.refl w.heap.size w)
 have H : (if 0 ≤ (IntKind.u64.wrap ((l0_0.length : Int))) then ((spec_l01In.f a2 6 (wrap64 ((shl .i64 6 (IntKind.u64.wrap ((l0_0.length : Int)))) - 1))).bind fun t453 => (if t453 = true then (spec_l27Possible.j0 k l1 a2 ((Int.tmod (wrap64 (Int.tdiv a2 6)) 2) == 1) l0_0) else (spec_l27Possible.j0 k l1 a2 true l0_0))) else (none)) = some r := h
 clear h
 have HC4 := am H
 clear H
 go_enter Try.func79, Try.ntmps79
 go_upto_region 2 with (first | ((with_reducible refine gate_dst (N := 3) rfl ?_); refine box_event ?hg (N := 3) ?hd (cs := #[.slice A0_0 l0_0.length c0_0]) (t := 29) ?hr ?_; (case hd => rfl); (case hg => rfl); (case hr => first | (go_simp; done) | (go_simp; rfl)); intro gb452 hg w5 hbox hb; have n0_ := am (Bb6 zB hb); have n1_ := am (hbox); have n2_ := am ((by rw [hg]; exact (Bb5 zB) : w.heap.size ≤ gb452)); have n3_ := n2_; clear HB; have HB := n0_; have BK452 := n1_; have GW452 := n2_; have GE452 := n3_; clear n0_ n1_ n2_ n3_; clear hb hbox hg; have hcz6_0 : w5.cell? ⟨gb452, 0, none⟩ = some (.slice A0_0 l0_0.length c0_0) := (kc BK452.out 0).trans rfl; have hfz6_0 := kf BK452.out 0))
 (try simp only [Act.put, sa])
 go_cut [23] (fun v23 wc => ∃ (kq : Nat) (x23_3 : Bool), v23 = .bool x23_3 ∧ Aside0 (spec_l27Possible.j0 kq l1 a2 x23_3 l0_0 = some r) ∧ Aside0 (kq ≤ k) ∧ Aside0 (wc.heap[gb452]? = some (.cells #[(.slice A0_0 l0_0.length c0_0)] 29 (0, 0))) ∧ Aside0 (Below w.heap.size w wc))
 case first =>
  have H := HC4.out
  clear HC4
  obtain ⟨ji7, hji7⟩ : ∃ j_ : Int, (IntKind.u64.wrap ((l0_0.length : Int))) = j_ := ⟨_, rfl⟩
  replace H : (if 0 ≤ (ji7) then ((spec_l01In.f a2 6 (wrap64 ((shl .i64 6 (ji7)) - 1))).bind fun t453 => (if t453 = true then (spec_l27Possible.j0 k l1 a2 ((Int.tmod (wrap64 (Int.tdiv a2 6)) 2) == 1) l0_0) else (spec_l27Possible.j0 k l1 a2 true l0_0))) else (none)) = some r := by first | (rw [hji7] at H; exact H) | (simp only [hji7] at H ⊢; exact H)
  by_cases c8 : 0 ≤ (ji7)
  rotate_left
  ·rw [if_neg c8] at H
   exact absurd H (by simp)
  rw [if_pos c8] at H
  have c8b0 := eq_true c8
  have c8b1 : decide (0 ≤ (ji7)) = true := decide_eq_true c8
  clear c8
  obtain ⟨ji9, hji9⟩ : ∃ j_ : Int, (shl .i64 6 (ji7)) = j_ := ⟨_, rfl⟩
  replace H : ((spec_l01In.f a2 6 (wrap64 ((ji9) - 1))).bind fun t453 => (if t453 = true then (spec_l27Possible.j0 k l1 a2 ((Int.tmod (wrap64 (Int.tdiv a2 6)) 2) == 1) l0_0) else (spec_l27Possible.j0 k l1 a2 true l0_0))) = some r := by first | (rw [hji9] at H; exact H) | (simp only [hji9] at H ⊢; exact H)
  have hji9_ : (IntKind.i64.wrap (6 * 2 ^ min (ji7).toNat 64)) = ji9 := hji9
  have hji9z : (ji7) ≤ 64 → (IntKind.i64.wrap (6 * 2 ^ (ji7).toNat)) = ji9 := shl_small hji9
  have hji9y : (wrap64 (6 * 2 ^ min (ji7).toNat 64)) = ji9 := (i64_w _).symm.trans hji9_
  have hji9x : (ji7) ≤ 64 → (wrap64 (6 * 2 ^ (ji7).toNat)) = ji9 := fun h_ => (i64_w _).symm.trans (hji9z h_)
  replace H := ob H
  obtain ⟨t453, A100, H⟩ := H
  (try dsimp only at H)
  have A10 := am A100
  clear A100
  by_cases c11 : t453 = true
  ·subst c11
   have H1 : (spec_l27Possible.j0 k l1 a2 ((Int.tmod (wrap64 (Int.tdiv a2 6)) 2) == 1) l0_0) = some r := by first | (rw [if_pos rfl] at H; exact H) | rfl
   clear H
   have H := H1
   clear H1
   have H' := am H
   clear H
   go_wp2_with (first | ((with_reducible refine gate_callee (f := 54) rfl ?_); refine goesL_ (some 16) rfl rfl Try.func54 (by kernel_rfl) rfl #[.int .i64 a2, .int .i64 6, .int .i64 (wrap64 ((ji9) - 1))] rfl (by (try simp only [List.map_toArray, List.map_cons, List.map_nil]); first | done | (simp only [hji9]; rfl) | rfl | (simp only [List.length_drop, List.length_take]; rfl)) ?_; (with_reducible refine (spec_l01In.calls a2 6 (wrap64 ((ji9) - 1)) true _ A10.out).mono ?_); rintro e w' ⟨rfl, ⟨nd, rfl⟩⟩; refine ⟨_, rfl, ?_⟩))
   (try subst hji7)
   go_meet
   case rel => exact ⟨_, (((Int.tmod (wrap64 (Int.tdiv a2 6)) 2) == 1)), zS, H', ⟨by first | omega | exact Nat.le_refl _⟩, ⟨zK BK452⟩, ⟨by repeat (first | (with_reducible first | exact HB.out | apply Bb1 | apply Bb2 | apply Bb3 | refine Bb4 ?_ GE452.out) | exact HB.out)⟩⟩
  replace c11 := ef c11
  subst c11
  have H1 : (spec_l27Possible.j0 k l1 a2 true l0_0) = some r := by first | (rw [if_neg (show ¬ (false = true) by decide)] at H; exact H) | rfl
  clear H
  have H := H1
  clear H1
  have H' := am H
  clear H
  go_wp2_with (first | ((with_reducible refine gate_callee (f := 54) rfl ?_); refine goesL_ (some 16) rfl rfl Try.func54 (by kernel_rfl) rfl #[.int .i64 a2, .int .i64 6, .int .i64 (wrap64 ((ji9) - 1))] rfl (by (try simp only [List.map_toArray, List.map_cons, List.map_nil]); first | done | (simp only [hji9]; rfl) | rfl | (simp only [List.length_drop, List.length_take]; rfl)) ?_; (with_reducible refine (spec_l01In.calls a2 6 (wrap64 ((ji9) - 1)) false _ A10.out).mono ?_); rintro e w' ⟨rfl, ⟨nd, rfl⟩⟩; refine ⟨_, rfl, ?_⟩))
  (try subst hji7)
  go_meet
  case rel => exact ⟨_, (true), zS, H', ⟨by first | omega | exact Nat.le_refl _⟩, ⟨zK BK452⟩, ⟨by repeat (first | (with_reducible first | exact HB.out | apply Bb1 | apply Bb2 | apply Bb3 | refine Bb4 ?_ GE452.out) | exact HB.out)⟩⟩
 clear HC4
 try clear c1
 try clear p2
 try clear c5
 try clear p6
 try clear c7
 try clear c8
 try clear c8b0
 try clear c8b1
 try clear c11
 try clear hcz6_0
 try clear hfz6_0
 obtain ⟨kq, x23_3, rfl, HA, HJ3, BK452, HB⟩ := hcut
 cases kq with
 | zero => exact absurd HA.out (by simp [spec_l27Possible.j0])
 | succ kj3 =>
  have H := HA.out
  clear HA
  simp only [spec_l27Possible.j0] at H
  by_cases c12 : x23_3 = true
  ·subst c12
   have H1 : (some false) = some r := by first | (rw [if_pos rfl] at H; exact H) | rfl
   clear H
   have H := H1
   clear H1
   obtain rfl := oi H
   go_wp2
   go_ret
   exact ⟨zE, by repeat (first | (with_reducible first | exact HB.out | apply Bb1 | apply Bb2 | apply Bb3 | refine Bb4 ?_ GE452.out) | exact HB.out)⟩
  replace c12 := ef c12
  subst c12
  have H1 : ((spec_l27After.f kj3 l1 a2).bind fun t454 => ((spec_l27Clear.f kj3 l0_0 t454).bind fun t457 => (some t457))) = some r := by first | (rw [if_neg (show ¬ (false = true) by decide)] at H; exact H) | rfl
  clear H
  have H := H1
  clear H1
  replace H := ob H
  obtain ⟨t454, A130, H⟩ := H
  (try dsimp only at H)
  have A13 := am A130
  clear A130
  replace H := ob H
  obtain ⟨t457, A140, H⟩ := H
  replace H : (some t457) = some r := H
  have A14 := am A140
  clear A140
  obtain rfl := oi H
  try go_wp2
  have n0_ := am (Bk3 BK452.out)
  have n1_ := am (Bb3 HB.out)
  clear BK452
  clear HB
  have BK452 := n0_
  have HB := n1_
  clear n0_ n1_
  refine start_ (n := 6) (S := fun w' => w'.cell? ⟨gb452, 0, none⟩ = some (.slice A0_0 l0_0.length c0_0)) (ds := []) #[z',z',z',z',z',z'] (by kernel_rfl) rfl rfl ((kc BK452.out 0).trans rfl) (fun hHeld => ?_)
  generalize wc.drew = w15 at BK452 HB hHeld ⊢
  refine pure_ (i := 1) (N := some 25) (v := ?_) (a' := ?_) #[z',o',z',z',z',z'] rfl rfl (by kernel_rfl) (fun _ _ _ h => h) (Or.inl ⟨by rfl, ?_⟩) ?_ ?_
  rotate_left
  ·intro w'
   go_simp
   with_reducible rfl
  rotate_left
  ·exact zP
  refine pure_ (i := 2) (N := some 26) (v := ?_) (a' := ?_) #[z',o',o',z',z',z'] rfl rfl (by kernel_rfl) (fun _ _ _ h => h) (Or.inl ⟨by rfl, ?_⟩) ?_ ?_
  rotate_left
  ·intro w'
   go_simp
   with_reducible rfl
  rotate_left
  ·exact zP
  refine take_ (i := 0) (N := some 24) (v := ?_) (a' := ?_) #[o',o',o',z',z',z'] rfl rfl (by kernel_rfl) (fun _ _ _ h => h) (Or.inl ⟨by rfl, ?_⟩) hHeld ?_ ?_
  rotate_left
  ·intro w' s0
   go_simp
   with_reducible rfl
  rotate_left
  ·exact zP
  refine one_ (i := 3) (N := some 27) #[o',o',o',o',z',z'] rfl rfl (by kernel_rfl) (by decide) (fun K hK => ?_)
  refine goes_ Try.func80 (by kernel_rfl) rfl #[.slice A1 l1.length c1, .int .i64 a2] (by rfl) rfl rfl zL ?_
  with_reducible refine (spec_l27After.calls kj3 _ _ l1 a2 t454 _ ?side1 ?side2 A13.out).mono ?_
  (case side1 => repeat (first | exact (Kd.C_below HR1.out HB.out) | (with_reducible refine Kd.C_alloc ?_ _) | (with_reducible refine Kd.C_drewN ?_ _) | (with_reducible refine Kd.C_drew ?_)))
  (case side2 => exact HC1.out)
  rintro e w16 ⟨v455, rfl, ho0, hb⟩
  refine ⟨_, rfl, ?_⟩
  have n0_ := am (Kd.R_lower ho0 (Bb5 (by repeat (first | (with_reducible first | exact HB.out | apply Bb1 | apply Bb2 | apply Bb3 | refine Bb4 ?_ GE452.out) | exact HB.out))))
  have n1_ := am (Bk4 (g := gb452) (o := .cells #[.slice A0_0 l0_0.length c0_0] 29 (0, 0)) (zK BK452) hb)
  have n2_ := am (Bb6 (by repeat (first | (with_reducible first | exact HB.out | apply Bb1 | apply Bb2 | apply Bb3 | refine Bb4 ?_ GE452.out) | exact HB.out)) hb)
  clear BK452
  clear HB
  have HO456 := n0_
  have BK452 := n1_
  have HB := n2_
  clear n0_ n1_ n2_
  (try clear hb)
  (try clear hb2)
  (try clear hk)
  (try clear hi)
  (try clear ho0)
  obtain ⟨Ao17, co17, eo17⟩ := Kd.R_slice HO456.out
  (first | subst eo17 | (injection eo17 with f1_ f2_ f3_; have f4_ := f1_.symm; have f5_ := f3_.symm; clear f1_ f2_ f3_; subst f4_; subst f5_))
  refine hK.out _ _ ((kc BK452.out 0).trans rfl) (fun hHeld => ?_)
  clear hK K
  refine norm_ (a' := ?_) ?_ ?_
  rotate_left
  ·show Act.put _ (some 27) _ = _
   simp only [Act.put, sa, i64_w, i32_w]
   rfl
  refine one_ (i := 4) (N := some 28) #[o',o',o',o',o',z'] rfl rfl (by kernel_rfl) (by decide) (fun K hK => ?_)
  refine goes_ Try.func66 (by kernel_rfl) rfl #[.agg #[.slice A0_0 l0_0.length c0_0], .slice Ao17 t454.length co17] (by rfl) rfl rfl zL ?_
  with_reducible refine (spec_l27Clear.calls kj3 _ _ l0_0 _ _ t454 t457 _ ?side1 ?side2 ?side3 ?side4 A14.out).mono ?_
  (case side1 => repeat (first | exact (Kd.C_below HR0_0.out HB.out) | (with_reducible refine Kd.C_alloc ?_ _) | (with_reducible refine Kd.C_drewN ?_ _) | (with_reducible refine Kd.C_drew ?_)))
  (case side2 => exact HC0_0.out)
  (case side3 => repeat (first | exact (Kd.R_reads' HO456.out).2.2 | (with_reducible refine Kd.C_alloc ?_ _) | (with_reducible refine Kd.C_drewN ?_ _) | (with_reducible refine Kd.C_drew ?_)))
  (case side4 => exact (Kd.R_reads' HO456.out).2.1)
  rintro e w18 ⟨rfl, hb⟩
  refine ⟨_, rfl, ?_⟩
  have n0_ := am (Kd.R_below (zR HO456) hb)
  have n1_ := am (Bk4 (g := gb452) (o := .cells #[.slice A0_0 l0_0.length c0_0] 29 (0, 0)) (zK BK452) hb)
  have n2_ := am (Bb6 (by repeat (first | (with_reducible first | exact HB.out | apply Bb1 | apply Bb2 | apply Bb3 | refine Bb4 ?_ GE452.out) | exact HB.out)) hb)
  clear HO456
  clear BK452
  clear HB
  have HO456 := n0_
  have BK452 := n1_
  have HB := n2_
  clear n0_ n1_ n2_
  (try clear hb)
  (try clear hb2)
  (try clear hk)
  (try clear hi)
  refine hK.out _ _ ((kc BK452.out 0).trans rfl) (fun hHeld => ?_)
  clear hK K
  refine norm_ (a' := ?_) ?_ ?_
  rotate_left
  ·show Act.put _ (some 28) _ = _
   simp only [Act.put, sa, i64_w, i32_w]
   rfl
  refine pure_ (i := 5) (N := some 6) (v := ?_) (a' := ?_) #[o',o',o',o',o',o'] rfl rfl (by kernel_rfl) (fun _ _ _ h => h) (Or.inl ⟨by rfl, ?_⟩) ?_ ?_
  rotate_left
  ·intro w'
   go_simp
   with_reducible rfl
  rotate_left
  ·exact zP
  refine done_ (by kernel_rfl) ?_
  try go_wp2
  go_ret
  exact ⟨zE, by repeat (first | (with_reducible first | exact HB.out | apply Bb1 | apply Bb2 | apply Bb3 | refine Bb4 ?_ GE452.out) | exact HB.out)⟩

/-! ### spec_MakeMove: function 34 -/
def spec_MakeMove.j0 : Nat → List (S71) → Int → Int → Bool → Option ((List (S71)) × Int)
 | 0, _, _, _, _ => none
 | k + 1, x1, x2, x8, x20 => if x20 = true then (if 5 = 0 then ((spec_l27After.f k x1 x2).bind fun t461 => (some (t461, 0))) else (some (([] : List (S71)), 5))) else (if x8 = 0 then ((spec_l27After.f k x1 x2).bind fun t464 => (some (t464, 0))) else (some (([] : List (S71)), x8)))
def spec_MakeMove.f (k : Nat) (l0_0 : List (List (S71))) (l1 : List (S71)) (a2 : Int) : Option ((List (S71)) × Int) := (spec_l27Code.f k l0_0 l1).bind fun t459 => (if t459 = 0 then ((spec_l27Possible.f k l0_0 l1 a2).bind fun t460 => (spec_MakeMove.j0 k l1 a2 t459 (!t460))) else (spec_MakeMove.j0 k l1 a2 t459 false))
theorem spec_MakeMove.mono_l : ∀ k, (∀ y0 y1 y2 y3, LeO (spec_MakeMove.j0 k y0 y1 y2 y3) (spec_MakeMove.j0 (k + 1) y0 y1 y2 y3))
 | 0 => fun _ _ _ _ r h => by simp [spec_MakeMove.j0] at h
 | k + 1 => by
  have ih0 := spec_MakeMove.mono_l k
  ·intro y0 y1 y2 y3
   unfold spec_MakeMove.j0
   repeat' first
   | (with_reducible exact ih0 _ _ _ _)
   | (with_reducible exact spec_l27After.mono _ _ _)
   | (with_reducible exact spec_l27Code.mono _ _ _)
   | (with_reducible exact spec_l27Possible.mono _ _ _ _)
   | (with_reducible exact LeO.refl _)
   | (with_reducible exact LeO.none _)
   | (with_reducible refine LeO.ite ?_ ?_)
   | (with_reducible refine LeO.bind ?_ (fun _ => ?_))
   | exact ih0 _ _ _ _
   | exact spec_l27After.mono _ _ _
   | exact spec_l27Code.mono _ _ _
   | exact spec_l27Possible.mono _ _ _ _
   | exact LeO.none _
   | refine LeO.ite ?_ ?_
   | refine LeO.bind ?_ (fun _ => ?_)
theorem spec_MakeMove.mono : ∀ a0 a1 a2 k, LeO (spec_MakeMove.f k a0 a1 a2) (spec_MakeMove.f (k + 1) a0 a1 a2) := by
 intro a0 a1 a2 k
 have ih0 := spec_MakeMove.mono_l k
 unfold spec_MakeMove.f
 repeat' first
   | (with_reducible exact ih0 _ _ _ _)
   | (with_reducible exact spec_l27After.mono _ _ _)
   | (with_reducible exact spec_l27Code.mono _ _ _)
   | (with_reducible exact spec_l27Possible.mono _ _ _ _)
   | (with_reducible exact LeO.refl _)
   | (with_reducible exact LeO.none _)
   | (with_reducible refine LeO.ite ?_ ?_)
   | (with_reducible refine LeO.bind ?_ (fun _ => ?_))
   | exact ih0 _ _ _ _
   | exact spec_l27After.mono _ _ _
   | exact spec_l27Code.mono _ _ _
   | exact spec_l27Possible.mono _ _ _ _
   | exact LeO.none _
   | refine LeO.ite ?_ ?_
   | refine LeO.bind ?_ (fun _ => ?_)
set_option maxHeartbeats 8000000 in
set_option maxRecDepth 100000 in
theorem spec_MakeMove.calls (k : Nat) (A0_0 : Option Addr) (c0_0 : Nat) (l0_0 : List (List (S71))) (A1 : Option Addr) (c1 : Nat) (l1 : List (S71)) (a2 : Int) (r1 : List (S71)) (r2 : Int) (w : World) (hr0_0 : Kd.C (Kd.slice 71 k71) w A0_0 l0_0.length l0_0) (hc0_0 : l0_0.length ≤ c0_0) (hr1 : Kd.C k71 w A1 l1.length l1) (hc1 : l1.length ≤ c1) (h : spec_MakeMove.f k l0_0 l1 a2 = some (r1, r2)) :
  Calls Try.prog 34 #[.agg #[.slice A0_0 l0_0.length c0_0], .slice A1 l1.length c1, .int .i64 a2] w fun e w' => ∃ v0_ : Value, e = .returned (.tuple #[v0_, .int .i64 r2]) ∧ Kd.R k71 71 w' w.heap.size (fun _ => True) v0_ r1 ∧ Below w.heap.size w w' := by
 have hu29 := Try.underlying29
 have HR0_0 := am hr0_0
 have HC0_0 := am hc0_0
 clear hr0_0 hc0_0
 have HR1 := am hr1
 have HC1 := am hc1
 clear hr1 hc1
 have HB := am (Below.refl w.heap.size w)
 have H : ((spec_l27Code.f k l0_0 l1).bind fun t459 => (if t459 = 0 then ((spec_l27Possible.f k l0_0 l1 a2).bind fun t460 => (spec_MakeMove.j0 k l1 a2 t459 (!t460))) else (spec_MakeMove.j0 k l1 a2 t459 false))) = some (r1, r2) := h
 clear h
 replace H := ob H
 obtain ⟨t459, A40, H⟩ := H
 (try dsimp only at H)
 have A4 := am A40
 clear A40
 have HC5 := am H
 clear H
 go_enter Try.func34, Try.ntmps34
 go_upto_region 2 with (first | ((with_reducible refine gate_dst (N := 3) rfl ?_); refine box_event ?hg (N := 3) ?hd (cs := #[.slice A0_0 l0_0.length c0_0]) (t := 29) ?hr ?_; (case hd => rfl); (case hg => rfl); (case hr => first | (go_simp; done) | (go_simp; rfl)); intro gb458 hg w6 hbox hb; have n0_ := am (Bb6 zB hb); have n1_ := am (hbox); have n2_ := am ((by rw [hg]; exact (Bb5 zB) : w.heap.size ≤ gb458)); have n3_ := n2_; clear HB; have HB := n0_; have BK458 := n1_; have GW458 := n2_; have GE458 := n3_; clear n0_ n1_ n2_ n3_; clear hb hbox hg; have hcz7_0 : w6.cell? ⟨gb458, 0, none⟩ = some (.slice A0_0 l0_0.length c0_0) := (kc BK458.out 0).trans rfl; have hfz7_0 := kf BK458.out 0) | ((with_reducible refine gate_callee (f := 72) rfl ?_); refine goesL_ (some 11) rfl rfl Try.func72 (by kernel_rfl) rfl #[.agg #[.slice A0_0 l0_0.length c0_0], .slice A1 l1.length c1] rfl zL ?_; (with_reducible refine (spec_l27Code.calls k _ _ l0_0 _ _ l1 t459 _ ?side1 ?side2 ?side3 ?side4 A4.out).mono ?_); (case side1 => repeat (first | exact (Kd.C_below HR0_0.out HB.out) | (with_reducible refine Kd.C_alloc ?_ _) | (with_reducible refine Kd.C_drewN ?_ _) | (with_reducible refine Kd.C_drew ?_))); (case side2 => exact HC0_0.out); (case side3 => repeat (first | exact (Kd.C_below HR1.out HB.out) | (with_reducible refine Kd.C_alloc ?_ _) | (with_reducible refine Kd.C_drewN ?_ _) | (with_reducible refine Kd.C_drew ?_))); (case side4 => exact HC1.out); rintro e w8 ⟨rfl, hb⟩; refine ⟨_, rfl, ?_⟩; have n0_ := am (Bk4 (g := gb458) (o := .cells #[.slice A0_0 l0_0.length c0_0] 29 (0, 0)) (zK BK458) hb); have n1_ := am (Bb6 (by repeat (first | (with_reducible first | exact HB.out | apply Bb1 | apply Bb2 | apply Bb3 | refine Bb4 ?_ GE458.out) | exact HB.out)) hb); clear BK458; clear HB; have BK458 := n0_; have HB := n1_; clear n0_ n1_; (try clear hb); (try clear hb2); (try clear hk); (try clear hi)))
 (try simp only [Act.put, sa])
 go_cut [20] (fun v20 wc => ∃ (kq : Nat) (x20_4 : Bool), v20 = .bool x20_4 ∧ Aside0 (spec_MakeMove.j0 kq l1 a2 t459 x20_4 = some (r1, r2)) ∧ Aside0 (kq ≤ k) ∧ Aside0 (wc.heap[gb458]? = some (.cells #[(.slice A0_0 l0_0.length c0_0)] 29 (0, 0))) ∧ Aside0 (Below w.heap.size w wc))
 case first =>
  have H := HC5.out
  clear HC5
  by_cases c9 : t459 = 0
  rotate_left
  ·rw [if_neg c9] at H
   have c9b0 : (t459 == 0) = false := beq_eq_false_iff_ne.mpr c9
   have c9b1 : (t459 != 0) = true := bne_iff_ne.mpr c9
   (first | rw [c9b0] | (simp only [i64_w, i32_w]; rw [c9b0]) | skip)
   have H' := am H
   clear H
   go_wp2
   go_meet
   case rel => exact ⟨_, (false), zS, H', ⟨by first | omega | exact Nat.le_refl _⟩, ⟨zK BK458⟩, ⟨by repeat (first | (with_reducible first | exact HB.out | apply Bb1 | apply Bb2 | apply Bb3 | refine Bb4 ?_ GE458.out) | exact HB.out)⟩⟩
  rw [if_pos c9] at H
  have c9b0 : (t459 == 0) = true := beq_iff_eq.mpr c9
  have c9b1 : (t459 != 0) = false := bne_eq_false_iff_eq.mpr c9
  clear c9
  (first | rw [c9b0] | (simp only [i64_w, i32_w]; rw [c9b0]) | skip)
  replace H := ob H
  obtain ⟨t460, A100, H⟩ := H
  (try dsimp only at H)
  have A10 := am A100
  clear A100
  have H' := am H
  clear H
  have hcz11_0 : w8.cell? ⟨gb458, 0, none⟩ = some (.slice A0_0 l0_0.length c0_0) := (kc BK458.out 0).trans rfl
  have hfz11_0 := kf BK458.out 0
  go_wp2_with (first | (go_at_call 79; (with_reducible refine (spec_l27Possible.calls k _ _ l0_0 _ _ l1 a2 t460 _ ?side1 ?side2 ?side3 ?side4 A10.out).mono ?_); (case side1 => repeat (first | exact (Kd.C_below HR0_0.out HB.out) | (with_reducible refine Kd.C_alloc ?_ _) | (with_reducible refine Kd.C_drewN ?_ _) | (with_reducible refine Kd.C_drew ?_))); (case side2 => exact HC0_0.out); (case side3 => repeat (first | exact (Kd.C_below HR1.out HB.out) | (with_reducible refine Kd.C_alloc ?_ _) | (with_reducible refine Kd.C_drewN ?_ _) | (with_reducible refine Kd.C_drew ?_))); (case side4 => exact HC1.out); rintro e w12 ⟨rfl, hb⟩; have n0_ := am (Bk4 (g := gb458) (o := .cells #[.slice A0_0 l0_0.length c0_0] 29 (0, 0)) (zK BK458) hb); have n1_ := am (Bb6 (by repeat (first | (with_reducible first | exact HB.out | apply Bb1 | apply Bb2 | apply Bb3 | refine Bb4 ?_ GE458.out) | exact HB.out)) hb); clear BK458; clear HB; have BK458 := n0_; have HB := n1_; clear n0_ n1_; (try clear hb); (try clear hb2); (try clear hk); (try clear hi)))
  go_meet
  case rel => exact ⟨_, (!t460), zS, H', ⟨by first | omega | exact Nat.le_refl _⟩, ⟨zK BK458⟩, ⟨by repeat (first | (with_reducible first | exact HB.out | apply Bb1 | apply Bb2 | apply Bb3 | refine Bb4 ?_ GE458.out) | exact HB.out)⟩⟩
 clear HC5
 try clear c1
 try clear p2
 try clear c3
 try clear c7
 try clear c9
 try clear c9b0
 try clear c9b1
 try clear hcz11_0
 try clear hcz7_0
 try clear hfz11_0
 try clear hfz7_0
 obtain ⟨kq, x20_4, rfl, HA, HJ4, BK458, HB⟩ := hcut
 cases kq with
 | zero => exact absurd HA.out (by simp [spec_MakeMove.j0])
 | succ kj4 =>
  have H := HA.out
  clear HA
  simp only [spec_MakeMove.j0] at H
  by_cases c13 : x20_4 = true
  ·subst c13
   have H1 : (if 5 = 0 then ((spec_l27After.f kj4 l1 a2).bind fun t461 => (some (t461, 0))) else (some (([] : List (S71)), 5))) = some (r1, r2) := by first | (rw [if_pos rfl] at H; exact H) | rfl
   clear H
   have H := H1
   clear H1
   by_cases c14 : 5 = 0
   ·exact absurd c14 (by decide)
   rw [if_neg c14] at H
   have c14b0 : (5 == 0) = false := beq_eq_false_iff_ne.mpr c14
   have c14b1 : (5 != 0) = true := bne_iff_ne.mpr c14
   simp only [Option.some.injEq, Prod.mk.injEq] at H
   obtain ⟨rfl, rfl⟩ := H
   go_wp2
   go_ret2
   exact ⟨_, zE, by first | exact Kd.R_nil _ _ _ _ _ | exact Kd.N_nil _ _ _ _ _ | exact Kd.V_nil _ _ _ _ _ | exact Kd.Q_nil _ _ _ _ _ | exact Kd.S_nil _ _ _ _ _, by repeat (first | (with_reducible first | exact HB.out | apply Bb1 | apply Bb2 | apply Bb3 | refine Bb4 ?_ GE458.out) | exact HB.out)⟩
  replace c13 := ef c13
  subst c13
  have H1 : (if t459 = 0 then ((spec_l27After.f kj4 l1 a2).bind fun t464 => (some (t464, 0))) else (some (([] : List (S71)), t459))) = some (r1, r2) := by first | (rw [if_neg (show ¬ (false = true) by decide)] at H; exact H) | rfl
  clear H
  have H := H1
  clear H1
  by_cases c17 : t459 = 0
  rotate_left
  ·rw [if_neg c17] at H
   have c17b0 : (t459 == 0) = false := beq_eq_false_iff_ne.mpr c17
   have c17b1 : (t459 != 0) = true := bne_iff_ne.mpr c17
   simp only [Option.some.injEq, Prod.mk.injEq] at H
   obtain ⟨rfl, rfl⟩ := H
   go_wp2
   go_ret2
   exact ⟨_, zE, by first | exact Kd.R_nil _ _ _ _ _ | exact Kd.N_nil _ _ _ _ _ | exact Kd.V_nil _ _ _ _ _ | exact Kd.Q_nil _ _ _ _ _ | exact Kd.S_nil _ _ _ _ _, by repeat (first | (with_reducible first | exact HB.out | apply Bb1 | apply Bb2 | apply Bb3 | refine Bb4 ?_ GE458.out) | exact HB.out)⟩
  rw [if_pos c17] at H
  have c17b0 : (t459 == 0) = true := beq_iff_eq.mpr c17
  have c17b1 : (t459 != 0) = false := bne_eq_false_iff_eq.mpr c17
  clear c17
  replace H := ob H
  obtain ⟨t464, A180, H⟩ := H
  replace H : (some (t464, 0)) = some (r1, r2) := H
  have A18 := am A180
  clear A180
  simp only [Option.some.injEq, Prod.mk.injEq] at H
  obtain ⟨rfl, rfl⟩ := H
  go_wp2_with (first | ((with_reducible refine gate_callee (f := 80) rfl ?_); refine goesL_ (some 26) rfl rfl Try.func80 (by kernel_rfl) rfl #[.slice A1 l1.length c1, .int .i64 a2] rfl zL ?_; (with_reducible refine (spec_l27After.calls kj4 _ _ l1 a2 t464 _ ?side1 ?side2 A18.out).mono ?_); (case side1 => repeat (first | exact (Kd.C_below HR1.out HB.out) | (with_reducible refine Kd.C_alloc ?_ _) | (with_reducible refine Kd.C_drewN ?_ _) | (with_reducible refine Kd.C_drew ?_))); (case side2 => exact HC1.out); rintro e w19 ⟨v465, rfl, ho0, hb⟩; refine ⟨_, rfl, ?_⟩; have n0_ := am (Kd.R_lower ho0 (Bb5 (by repeat (first | (with_reducible first | exact HB.out | apply Bb1 | apply Bb2 | apply Bb3 | refine Bb4 ?_ GE458.out) | exact HB.out)))); have n1_ := am (Bk4 (g := gb458) (o := .cells #[.slice A0_0 l0_0.length c0_0] 29 (0, 0)) (zK BK458) hb); have n2_ := am (Bb6 (by repeat (first | (with_reducible first | exact HB.out | apply Bb1 | apply Bb2 | apply Bb3 | refine Bb4 ?_ GE458.out) | exact HB.out)) hb); clear BK458; clear HB; have HO466 := n0_; have BK458 := n1_; have HB := n2_; clear n0_ n1_ n2_; (try clear hb); (try clear hb2); (try clear hk); (try clear hi); (try clear ho0)))
  go_ret2
  exact ⟨_, zE, by (with_reducible repeat (first | apply Kd.R_alloc | apply Kd.R_drewN | apply Kd.R_drew)); exact HO466.out, by repeat (first | (with_reducible first | exact HB.out | apply Bb1 | apply Bb2 | apply Bb3 | refine Bb4 ?_ GE458.out) | exact HB.out)⟩

end Go.Proofs.Ytjgnlakgojookaa.Q
