/- Written by a program of this session (wip/tools/pp.py) out of the translation, with the kit's printer. -/
import Derived.Test.YtcgnnfaemjjljaaDoorQ0
import Derived.Test.YtcgnnfaemjjljaaDoorQ12
import Derived.Test.YtcgnnfaemjjljaaDoorQ13
namespace Go.Proofs.YtcgnnfaemjjljaaDoor.Q
open Go.RowKit Go.Proofs.YtcgnnfaemjjljaaDoorW.PrintWords Go.Proofs.YtcgnnfaemjjljaaDoorW.PrintLast Go.Proofs.YtcgnnfaemjjljaaDoorW.PrintMore
attribute [local go_sem] max2_int min2_int max_two min_two max_three min_three max_four min_four
set_option linter.unusedVariables false
set_option linter.unusedSimpArgs false

/-! ### impl_IsFactoring: function 20 -/
abbrev impl_IsFactoring.m0 : Array Bool := #[z',z',z',z',z',z',z',z',z',z',z',z',z',z',z',z',z',z',z',z',z',z',z']
abbrev impl_IsFactoring.m1 : Array Bool := #[o',z',z',z',z',z',z',z',z',z',z',z',z',z',z',z',z',z',z',z',z',z',z']
abbrev impl_IsFactoring.m2 : Array Bool := #[o',o',z',z',z',z',z',z',z',z',z',z',z',z',z',z',z',z',z',z',z',z',z']
abbrev impl_IsFactoring.m3 : Array Bool := #[o',o',o',z',z',z',z',z',z',z',z',z',z',z',z',z',z',z',z',z',z',z',z']
abbrev impl_IsFactoring.m4 : Array Bool := #[o',o',o',o',z',z',z',z',z',z',z',z',z',z',z',z',z',z',z',z',z',z',z']
abbrev impl_IsFactoring.m5 : Array Bool := #[o',o',o',o',o',z',z',z',z',z',z',z',z',z',z',z',z',z',z',z',z',z',z']
abbrev impl_IsFactoring.m6 : Array Bool := #[o',o',o',o',o',o',z',z',z',z',z',z',z',z',z',z',z',z',z',z',z',z',z']
abbrev impl_IsFactoring.m7 : Array Bool := #[o',o',o',o',o',o',o',z',z',z',z',z',z',z',z',z',z',z',z',z',z',z',z']
abbrev impl_IsFactoring.m8 : Array Bool := #[o',o',o',o',o',o',o',o',z',z',z',z',z',z',z',z',z',z',z',z',z',z',z']
abbrev impl_IsFactoring.m9 : Array Bool := #[o',o',o',o',o',o',o',o',o',z',z',z',z',z',z',z',z',z',z',z',z',z',z']
abbrev impl_IsFactoring.m10 : Array Bool := #[o',o',o',o',o',o',o',o',o',o',z',z',z',z',z',z',z',z',z',z',z',z',z']
abbrev impl_IsFactoring.m11 : Array Bool := #[o',o',o',o',o',o',o',o',o',o',o',z',z',z',z',z',z',z',z',z',z',z',z']
abbrev impl_IsFactoring.m12 : Array Bool := #[o',o',o',o',o',o',o',o',o',o',o',o',z',z',z',z',z',z',z',z',z',z',z']
abbrev impl_IsFactoring.m13 : Array Bool := #[o',o',o',o',o',o',o',o',o',o',o',o',o',z',z',z',z',z',z',z',z',z',z']
abbrev impl_IsFactoring.m14 : Array Bool := #[o',o',o',o',o',o',o',o',o',o',o',o',o',o',z',z',z',z',z',z',z',z',z']
abbrev impl_IsFactoring.m15 : Array Bool := #[o',o',o',o',o',o',o',o',o',o',o',o',o',o',o',z',z',z',z',z',z',z',z']
abbrev impl_IsFactoring.m16 : Array Bool := #[o',o',o',o',o',o',o',o',o',o',o',o',o',o',o',o',z',z',z',z',z',z',z']
abbrev impl_IsFactoring.m17 : Array Bool := #[o',o',o',o',o',o',o',o',o',o',o',o',o',o',o',o',o',z',z',z',z',z',z']
abbrev impl_IsFactoring.m18 : Array Bool := #[o',o',o',o',o',o',o',o',o',o',o',o',o',o',o',o',o',o',z',z',z',z',z']
abbrev impl_IsFactoring.m19 : Array Bool := #[o',o',o',o',o',o',o',o',o',o',o',o',o',o',o',o',o',o',o',z',z',z',z']
abbrev impl_IsFactoring.m20 : Array Bool := #[o',o',o',o',o',o',o',o',o',o',o',o',o',o',o',o',o',o',o',o',z',z',z']
abbrev impl_IsFactoring.m21 : Array Bool := #[o',o',o',o',o',o',o',o',o',o',o',o',o',o',o',o',o',o',o',o',o',z',z']
abbrev impl_IsFactoring.m22 : Array Bool := #[o',o',o',o',o',o',o',o',o',o',o',o',o',o',o',o',o',o',o',o',o',o',z']
abbrev impl_IsFactoring.m23 : Array Bool := #[o',o',o',o',o',o',o',o',o',o',o',o',o',o',o',o',o',o',o',o',o',o',o']
def impl_IsFactoring.j0 : Nat → ByteArray → Int → Int → Int → Bool → Option (Bool)
 | 0, _, _, _, _, _ => none
 | k + 1, x0, x1, x2, x3, x20 => if x20 = true then (some false) else ((impl_within.f x2 0 (wrap64 ((x0.size : Int) / 2))).bind fun t160 => (if t160 = true then ((impl_within.f x3 0 (wrap64 ((wrap64 ((x0.size : Int) / 2)) - x2))).bind fun t161 => (if t161 = true then (if 0 ≤ x1 then (if x1 ≤ (x0.size : Int) then (if (x0.extract (x1 : Int).toNat x0.size).size + (x0.extract 0 (x1 : Int).toNat).size ≤ 9223372036854775807 then ((impl_isFactoring.f k ((x0.extract (x1 : Int).toNat x0.size) ++ (x0.extract 0 (x1 : Int).toNat)) x2 x3).bind fun t162 => (some t162)) else (none)) else (none)) else (none)) else (some false))) else (some false)))
def impl_IsFactoring.f (k : Nat) (a0 : ByteArray) (a1 : Int) (a2 : Int) (a3 : Int) : Option (Bool) := (impl_IsClosed.f a0).bind fun t158 => (if t158 = true then ((impl_within.f a1 0 (wrap64 ((a0.size : Int) - 1))).bind fun t159 => (impl_IsFactoring.j0 k a0 a1 a2 a3 (!t159))) else (impl_IsFactoring.j0 k a0 a1 a2 a3 true))
theorem impl_IsFactoring.mono_l : ∀ k, (∀ y0 y1 y2 y3 y4, LeO (impl_IsFactoring.j0 k y0 y1 y2 y3 y4) (impl_IsFactoring.j0 (k + 1) y0 y1 y2 y3 y4))
 | 0 => fun _ _ _ _ _ r h => by simp [impl_IsFactoring.j0] at h
 | k + 1 => by
  have ih0 := impl_IsFactoring.mono_l k
  ·intro y0 y1 y2 y3 y4
   unfold impl_IsFactoring.j0
   repeat' first
   | (with_reducible exact ih0 _ _ _ _ _)
   | (with_reducible exact impl_isFactoring.mono _ _ _ _)
   | (with_reducible exact LeO.refl _)
   | (with_reducible exact LeO.none _)
   | (with_reducible refine LeO.ite ?_ ?_)
   | (with_reducible refine LeO.bind ?_ (fun _ => ?_))
   | exact ih0 _ _ _ _ _
   | exact impl_isFactoring.mono _ _ _ _
   | exact LeO.none _
   | refine LeO.ite ?_ ?_
   | refine LeO.bind ?_ (fun _ => ?_)
theorem impl_IsFactoring.mono : ∀ a0 a1 a2 a3 k, LeO (impl_IsFactoring.f k a0 a1 a2 a3) (impl_IsFactoring.f (k + 1) a0 a1 a2 a3) := by
 intro a0 a1 a2 a3 k
 have ih0 := impl_IsFactoring.mono_l k
 unfold impl_IsFactoring.f
 repeat' first
   | (with_reducible exact ih0 _ _ _ _ _)
   | (with_reducible exact impl_isFactoring.mono _ _ _ _)
   | (with_reducible exact LeO.refl _)
   | (with_reducible exact LeO.none _)
   | (with_reducible refine LeO.ite ?_ ?_)
   | (with_reducible refine LeO.bind ?_ (fun _ => ?_))
   | exact ih0 _ _ _ _ _
   | exact impl_isFactoring.mono _ _ _ _
   | exact LeO.none _
   | refine LeO.ite ?_ ?_
   | refine LeO.bind ?_ (fun _ => ?_)
def impl_IsFactoring.T4 : Bool × List (List Nat × List Nat) := (true, [([], []), ([], []), ([0, 1], [0, 1]), ([2, 2], [2]), ([3], [3]), ([3], [3]), ([3], [3]), ([5, 6, 3], [3, 5, 6]), ([4, 7, 3, 3], [3, 4, 7]), ([3, 8], [3, 8]), ([9, 8], [9]), ([10], [10]), ([10], [10]), ([11, 12, 10], [10, 11, 12]), ([10], [10]), ([10], [10]), ([14, 15, 10], [10, 14, 15]), ([13, 16, 10], [10, 13, 16]), ([10], [10]), ([10], [10]), ([17, 18, 19, 10, 10], [10, 17, 18, 19]), ([10, 20], [10, 20]), ([21, 20, 0, 1, 2, 3, 4, 5, 6, 7, 8, 9, 10, 11, 12, 13, 14, 15, 16, 17, 18, 19, 20, 21], [21])])
def impl_IsFactoring.B4 : List Nat := [0, 0, 3, 7, 15, 15, 15, 111, 255, 511, 1023, 2047, 2047, 8191, 2047, 2047, 51199, 131071, 2047, 2047, 1048575, 2097151, 4194303]
theorem impl_IsFactoring.tab4 : rtab .any (opsOf Tryd.f20 4) = impl_IsFactoring.T4 := by kernel_rfl
theorem impl_IsFactoring.bits4 : waitsOk impl_IsFactoring.T4.2 impl_IsFactoring.B4 = true := by kernel_rfl
set_option maxHeartbeats 8000000 in
set_option maxRecDepth 100000 in
theorem impl_IsFactoring.calls (k : Nat) (a0 : ByteArray) (a1 : Int) (a2 : Int) (a3 : Int) (r : Bool) (w : World) (h : impl_IsFactoring.f k a0 a1 a2 a3 = some r) :
  Calls Tryd.prog 20 #[.string a0, .int .i64 a1, .int .i64 a2, .int .i64 a3] w fun e w' => e = .returned (.bool r) ∧ Below w.heap.size w w' := by
 have HB := am (Below.refl w.heap.size w)
 have H : ((impl_IsClosed.f a0).bind fun t158 => (if t158 = true then ((impl_within.f a1 0 (wrap64 ((a0.size : Int) - 1))).bind fun t159 => (impl_IsFactoring.j0 k a0 a1 a2 a3 (!t159))) else (impl_IsFactoring.j0 k a0 a1 a2 a3 true))) = some r := h
 clear h
 have HC5 := am H
 clear H
 go_enter Tryd.func20, Tryd.ntmps20
 go_upto_region 1 with (fail)
 go_cut [20] (fun v20 wc => ∃ (kq : Nat) (x20_4 : Bool), v20 = .bool x20_4 ∧ Aside0 (impl_IsFactoring.j0 kq a0 a1 a2 a3 x20_4 = some r) ∧ Aside0 (kq ≤ k) ∧ Aside0 (Below w.heap.size w wc))
 case first =>
  have H := HC5.out
  clear HC5
  replace H := ob H
  obtain ⟨t158, A60, H⟩ := H
  (try dsimp only at H)
  have A6 := am A60
  clear A60
  by_cases c7 : t158 = true
  rotate_left
  ·replace c7 := ef c7
   subst c7
   have H1 : (impl_IsFactoring.j0 k a0 a1 a2 a3 true) = some r := by first | (rw [if_neg (show ¬ (false = true) by decide)] at H; exact H) | rfl
   clear H
   have H := H1
   clear H1
   have H' := am H
   clear H
   go_wp2_with (first | ((with_reducible refine gate_callee (f := 16) rfl ?_); refine goesL_ (some 11) rfl rfl Tryd.func16 (by kernel_rfl) rfl #[.string a0] rfl zL ?_; (with_reducible refine (impl_IsClosed.calls a0 false _ A6.out).mono ?_); rintro e w10 ⟨rfl, hb⟩; refine ⟨_, rfl, ?_⟩; have n0_ := am (Bb6 zB hb); clear HB; have HB := n0_; clear n0_; (try clear hb); (try clear hb2); (try clear hk); (try clear hi)))
   go_meet
   case rel => exact ⟨_, (true), zS, H', ⟨by first | omega | exact Nat.le_refl _⟩, ⟨zB⟩⟩
  subst c7
  have H1 : ((impl_within.f a1 0 (wrap64 ((a0.size : Int) - 1))).bind fun t159 => (impl_IsFactoring.j0 k a0 a1 a2 a3 (!t159))) = some r := by first | (rw [if_pos rfl] at H; exact H) | rfl
  clear H
  have H := H1
  clear H1
  replace H := ob H
  obtain ⟨t159, A80, H⟩ := H
  (try dsimp only at H)
  have A8 := am A80
  clear A80
  have H' := am H
  clear H
  go_wp2_with (first | ((with_reducible refine gate_callee (f := 16) rfl ?_); refine goesL_ (some 11) rfl rfl Tryd.func16 (by kernel_rfl) rfl #[.string a0] rfl zL ?_; (with_reducible refine (impl_IsClosed.calls a0 true _ A6.out).mono ?_); rintro e w9 ⟨rfl, hb⟩; refine ⟨_, rfl, ?_⟩; have n0_ := am (Bb6 zB hb); clear HB; have HB := n0_; clear n0_; (try clear hb); (try clear hb2); (try clear hk); (try clear hi)) | (go_at_call 31; (with_reducible refine (impl_within.calls a1 0 (wrap64 ((a0.size : Int) - 1)) t159 _ A8.out).mono ?_); rintro e w' ⟨rfl, ⟨nd, rfl⟩⟩))
  go_meet
  case rel => exact ⟨_, (!t159), zS, H', ⟨by first | omega | exact Nat.le_refl _⟩, ⟨zB⟩⟩
 clear HC5
 try clear c1
 try clear c2
 try clear p2
 try clear p6
 try clear c7
 obtain ⟨kq, x20_4, rfl, HA, HJ4, HB⟩ := hcut
 cases kq with
 | zero => exact absurd HA.out (by simp [impl_IsFactoring.j0])
 | succ kj4 =>
  have H := HA.out
  clear HA
  simp only [impl_IsFactoring.j0] at H
  by_cases c11 : x20_4 = true
  ·subst c11
   have H1 : (some false) = some r := by first | (rw [if_pos rfl] at H; exact H) | rfl
   clear H
   have H := H1
   clear H1
   obtain rfl := oi H
   go_wp2
   go_ret
   exact ⟨zE, zB⟩
  replace c11 := ef c11
  subst c11
  have H1 : ((impl_within.f a2 0 (wrap64 ((a0.size : Int) / 2))).bind fun t160 => (if t160 = true then ((impl_within.f a3 0 (wrap64 ((wrap64 ((a0.size : Int) / 2)) - a2))).bind fun t161 => (if t161 = true then (if 0 ≤ a1 then (if a1 ≤ (a0.size : Int) then (if (a0.extract (a1 : Int).toNat a0.size).size + (a0.extract 0 (a1 : Int).toNat).size ≤ 9223372036854775807 then ((impl_isFactoring.f kj4 ((a0.extract (a1 : Int).toNat a0.size) ++ (a0.extract 0 (a1 : Int).toNat)) a2 a3).bind fun t162 => (some t162)) else (none)) else (none)) else (none)) else (some false))) else (some false))) = some r := by first | (rw [if_neg (show ¬ (false = true) by decide)] at H; exact H) | rfl
  clear H
  have H := H1
  clear H1
  replace H := ob H
  obtain ⟨t160, A120, H⟩ := H
  (try dsimp only at H)
  have A12 := am A120
  clear A120
  by_cases c13 : t160 = true
  rotate_left
  ·replace c13 := ef c13
   subst c13
   have H1 : (some false) = some r := by first | (rw [if_neg (show ¬ (false = true) by decide)] at H; exact H) | rfl
   clear H
   have H := H1
   clear H1
   obtain rfl := oi H
   try go_wp2
   have n0_ := am (Bb3 HB.out)
   clear HB
   have HB := n0_
   clear n0_
   refine start_ (n := 23) (S := fun w' => True) (ds := []) impl_IsFactoring.m0 (by kernel_rfl) rfl rfl trivial (fun hHeld => ?_); refine with_tabW impl_IsFactoring.tab4 impl_IsFactoring.bits4 (fun HT_ HW_ => ?_)
   generalize wc.drew = w25 at HB hHeld ⊢
   refine pure_ (i := 0) (N := some 24) (v := ?_) (a' := ?_) impl_IsFactoring.m1 rfl rfl zA (fun _ _ _ h => h) (Or.inl ⟨by rfl, ?_⟩) ?_ ?_
   rotate_left
   ·intro w'
    go_simp
    with_reducible rfl
   rotate_left
   ·exact zP
   refine pure_ (i := 1) (N := some 25) (v := ?_) (a' := ?_) impl_IsFactoring.m2 rfl rfl zA (fun _ _ _ h => h) (Or.inl ⟨by rfl, ?_⟩) ?_ ?_
   rotate_left
   ·intro w'
    go_simp
    with_reducible rfl
   rotate_left
   ·exact zP
   refine one_ (i := 2) (N := some 26) impl_IsFactoring.m3 rfl rfl (one_of HT_.out (by kernel_rfl)) (by decide) (fun K hK => ?_)
   refine goes_ Tryd.func31 (by kernel_rfl) rfl #[.int .i64 a2, .int .i64 0, .int .i64 (wrap64 ((a0.size : Int) / 2))] (by rfl) rfl rfl zL ?_
   with_reducible refine (impl_within.calls a2 0 (wrap64 ((a0.size : Int) / 2)) false _ A12.out).mono ?_
   rintro e w' ⟨rfl, ⟨nd, rfl⟩⟩
   refine ⟨_, rfl, ?_⟩
   refine hK.out _ _ trivial (fun hHeld => ?_)
   clear hK K
   refine norm_ (a' := ?_) ?_ ?_
   rotate_left
   ·show Act.put _ (some 26) _ = _
    simp only [Act.put, sa, i64_w, i32_w]
    rfl
   refine pure_ (i := 3) (N := some 27) (v := ?_) (a' := ?_) impl_IsFactoring.m4 rfl rfl zA (fun _ _ _ h => h) (Or.inl ⟨by rfl, ?_⟩) ?_ ?_
   rotate_left
   ·intro w'
    go_simp
    with_reducible rfl
   rotate_left
   ·exact zP
   refine pure_ (i := 4) (N := some 28) (v := undef) (a' := ?_) impl_IsFactoring.m5 rfl rfl zA (fun _ _ _ h => h) (Or.inr ⟨by rfl, rfl⟩) ?_ ?_
   rotate_left
   ·exact zP
   refine pure_ (i := 5) (N := some 29) (v := undef) (a' := ?_) impl_IsFactoring.m6 rfl rfl zA (fun _ _ _ h => h) (Or.inr ⟨by rfl, rfl⟩) ?_ ?_
   rotate_left
   ·exact zP
   refine pure_ (i := 6) (N := some 30) (v := undef) (a' := ?_) impl_IsFactoring.m7 rfl rfl zA (fun _ _ _ h => h) (Or.inr ⟨by rfl, rfl⟩) ?_ ?_
   rotate_left
   ·exact zP
   refine pure_ (i := 7) (N := some 31) (v := undef) (a' := ?_) impl_IsFactoring.m8 rfl rfl zA (fun _ _ _ h => h) (Or.inr ⟨by rfl, rfl⟩) ?_ ?_
   rotate_left
   ·exact zP
   refine pure_ (i := 8) (N := some 32) (v := undef) (a' := ?_) impl_IsFactoring.m9 rfl rfl zA (fun _ _ _ h => h) (Or.inr ⟨by rfl, rfl⟩) ?_ ?_
   rotate_left
   ·exact zP
   refine pure_ (i := 9) (N := some 33) (v := ?_) (a' := ?_) impl_IsFactoring.m10 rfl rfl zA (fun _ _ _ h => h) (Or.inl ⟨by rfl, ?_⟩) ?_ ?_
   rotate_left
   ·intro w'
    go_simp
    with_reducible rfl
   rotate_left
   ·exact zP
   refine pure_ (i := 10) (N := some 34) (v := ?_) (a' := ?_) impl_IsFactoring.m11 rfl rfl zA (fun _ _ _ h => h) (Or.inl ⟨by rfl, ?_⟩) ?_ ?_
   rotate_left
   ·intro w'
    go_simp
    with_reducible rfl
   rotate_left
   ·exact zP
   refine pure_ (i := 11) (N := some 35) (v := undef) (a' := ?_) impl_IsFactoring.m12 rfl rfl zA (fun _ _ _ h => h) (Or.inr ⟨by rfl, rfl⟩) ?_ ?_
   rotate_left
   ·exact zP
   refine pure_ (i := 12) (N := some 36) (v := undef) (a' := ?_) impl_IsFactoring.m13 rfl rfl zA (fun _ _ _ h => h) (Or.inr ⟨by rfl, rfl⟩) ?_ ?_
   rotate_left
   ·exact zP
   refine pure_ (i := 13) (N := some 37) (v := undef) (a' := ?_) impl_IsFactoring.m14 rfl rfl zA (fun _ _ _ h => h) (Or.inr ⟨by rfl, rfl⟩) ?_ ?_
   rotate_left
   ·exact zP
   refine pure_ (i := 14) (N := some 38) (v := undef) (a' := ?_) impl_IsFactoring.m15 rfl rfl zA (fun _ _ _ h => h) (Or.inr ⟨by rfl, rfl⟩) ?_ ?_
   rotate_left
   ·exact zP
   refine pure_ (i := 15) (N := some 39) (v := undef) (a' := ?_) impl_IsFactoring.m16 rfl rfl zA (fun _ _ _ h => h) (Or.inr ⟨by rfl, rfl⟩) ?_ ?_
   rotate_left
   ·exact zP
   refine pure_ (i := 16) (N := some 40) (v := undef) (a' := ?_) impl_IsFactoring.m17 rfl rfl zA (fun _ _ _ h => h) (Or.inr ⟨by rfl, rfl⟩) ?_ ?_
   rotate_left
   ·exact zP
   refine pure_ (i := 17) (N := some 41) (v := undef) (a' := ?_) impl_IsFactoring.m18 rfl rfl zA (fun _ _ _ h => h) (Or.inr ⟨by rfl, rfl⟩) ?_ ?_
   rotate_left
   ·exact zP
   refine pure_ (i := 18) (N := some 42) (v := undef) (a' := ?_) impl_IsFactoring.m19 rfl rfl zA (fun _ _ _ h => h) (Or.inr ⟨by rfl, rfl⟩) ?_ ?_
   rotate_left
   ·exact zP
   refine pure_ (i := 19) (N := some 43) (v := undef) (a' := ?_) impl_IsFactoring.m20 rfl rfl zA (fun _ _ _ h => h) (Or.inr ⟨by rfl, rfl⟩) ?_ ?_
   rotate_left
   ·exact zP
   refine pure_ (i := 20) (N := some 44) (v := undef) (a' := ?_) impl_IsFactoring.m21 rfl rfl zA (fun _ _ _ h => h) (Or.inr ⟨by rfl, rfl⟩) ?_ ?_
   rotate_left
   ·exact zP
   refine pure_ (i := 21) (N := some 45) (v := ?_) (a' := ?_) impl_IsFactoring.m22 rfl rfl zA (fun _ _ _ h => h) (Or.inl ⟨by rfl, ?_⟩) ?_ ?_
   rotate_left
   ·intro w'
    go_simp
    with_reducible rfl
   rotate_left
   ·exact zP
   refine pure_ (i := 22) (N := some 8) (v := ?_) (a' := ?_) impl_IsFactoring.m23 rfl rfl zA (fun _ _ _ h => h) (Or.inl ⟨by rfl, ?_⟩) ?_ ?_
   rotate_left
   ·intro w'
    go_simp
    with_reducible rfl
   rotate_left
   ·exact zP
   refine done_ (done_of HT_.out (by kernel_rfl)) ?_
   try go_wp2
   go_ret
   exact ⟨zE, zB⟩
  subst c13
  have H1 : ((impl_within.f a3 0 (wrap64 ((wrap64 ((a0.size : Int) / 2)) - a2))).bind fun t161 => (if t161 = true then (if 0 ≤ a1 then (if a1 ≤ (a0.size : Int) then (if (a0.extract (a1 : Int).toNat a0.size).size + (a0.extract 0 (a1 : Int).toNat).size ≤ 9223372036854775807 then ((impl_isFactoring.f kj4 ((a0.extract (a1 : Int).toNat a0.size) ++ (a0.extract 0 (a1 : Int).toNat)) a2 a3).bind fun t162 => (some t162)) else (none)) else (none)) else (none)) else (some false))) = some r := by first | (rw [if_pos rfl] at H; exact H) | rfl
  clear H
  have H := H1
  clear H1
  replace H := ob H
  obtain ⟨t161, A140, H⟩ := H
  (try dsimp only at H)
  have A14 := am A140
  clear A140
  by_cases c15 : t161 = true
  rotate_left
  ·replace c15 := ef c15
   subst c15
   have H1 : (some false) = some r := by first | (rw [if_neg (show ¬ (false = true) by decide)] at H; exact H) | rfl
   clear H
   have H := H1
   clear H1
   obtain rfl := oi H
   try go_wp2
   have n0_ := am (Bb3 HB.out)
   clear HB
   have HB := n0_
   clear n0_
   refine start_ (n := 23) (S := fun w' => True) (ds := []) impl_IsFactoring.m0 (by kernel_rfl) rfl rfl trivial (fun hHeld => ?_); refine with_tabW impl_IsFactoring.tab4 impl_IsFactoring.bits4 (fun HT_ HW_ => ?_)
   generalize wc.drew = w24 at HB hHeld ⊢
   refine pure_ (i := 0) (N := some 24) (v := ?_) (a' := ?_) impl_IsFactoring.m1 rfl rfl zA (fun _ _ _ h => h) (Or.inl ⟨by rfl, ?_⟩) ?_ ?_
   rotate_left
   ·intro w'
    go_simp
    with_reducible rfl
   rotate_left
   ·exact zP
   refine pure_ (i := 1) (N := some 25) (v := ?_) (a' := ?_) impl_IsFactoring.m2 rfl rfl zA (fun _ _ _ h => h) (Or.inl ⟨by rfl, ?_⟩) ?_ ?_
   rotate_left
   ·intro w'
    go_simp
    with_reducible rfl
   rotate_left
   ·exact zP
   refine one_ (i := 2) (N := some 26) impl_IsFactoring.m3 rfl rfl (one_of HT_.out (by kernel_rfl)) (by decide) (fun K hK => ?_)
   refine goes_ Tryd.func31 (by kernel_rfl) rfl #[.int .i64 a2, .int .i64 0, .int .i64 (wrap64 ((a0.size : Int) / 2))] (by rfl) rfl rfl zL ?_
   with_reducible refine (impl_within.calls a2 0 (wrap64 ((a0.size : Int) / 2)) true _ A12.out).mono ?_
   rintro e w' ⟨rfl, ⟨nd, rfl⟩⟩
   refine ⟨_, rfl, ?_⟩
   refine hK.out _ _ trivial (fun hHeld => ?_)
   clear hK K
   refine norm_ (a' := ?_) ?_ ?_
   rotate_left
   ·show Act.put _ (some 26) _ = _
    simp only [Act.put, sa, i64_w, i32_w]
    rfl
   refine pure_ (i := 3) (N := some 27) (v := ?_) (a' := ?_) impl_IsFactoring.m4 rfl rfl zA (fun _ _ _ h => h) (Or.inl ⟨by rfl, ?_⟩) ?_ ?_
   rotate_left
   ·intro w'
    go_simp
    with_reducible rfl
   rotate_left
   ·exact zP
   refine pure_ (i := 4) (N := some 28) (v := ?_) (a' := ?_) impl_IsFactoring.m5 rfl rfl zA (fun _ _ _ h => h) (Or.inl ⟨by rfl, ?_⟩) ?_ ?_
   rotate_left
   ·intro w'
    go_simp
    with_reducible rfl
   rotate_left
   ·exact zP
   refine pure_ (i := 5) (N := some 29) (v := ?_) (a' := ?_) impl_IsFactoring.m6 rfl rfl zA (fun _ _ _ h => h) (Or.inl ⟨by rfl, ?_⟩) ?_ ?_
   rotate_left
   ·intro w'
    go_simp
    with_reducible rfl
   rotate_left
   ·exact zP
   refine pure_ (i := 6) (N := some 30) (v := ?_) (a' := ?_) impl_IsFactoring.m7 rfl rfl zA (fun _ _ _ h => h) (Or.inl ⟨by rfl, ?_⟩) ?_ ?_
   rotate_left
   ·intro w'
    go_simp
    with_reducible rfl
   rotate_left
   ·exact zP
   refine pure_ (i := 7) (N := some 31) (v := ?_) (a' := ?_) impl_IsFactoring.m8 rfl rfl zA (fun _ _ _ h => h) (Or.inl ⟨by rfl, ?_⟩) ?_ ?_
   rotate_left
   ·intro w'
    go_simp
    with_reducible rfl
   rotate_left
   ·exact zP
   refine one_ (i := 8) (N := some 32) impl_IsFactoring.m9 rfl rfl (one_of HT_.out (by kernel_rfl)) (by decide) (fun K hK => ?_)
   refine goes_ Tryd.func31 (by kernel_rfl) rfl #[.int .i64 a3, .int .i64 0, .int .i64 (wrap64 ((wrap64 ((a0.size : Int) / 2)) - a2))] (by rfl) rfl rfl zL ?_
   with_reducible refine (impl_within.calls a3 0 (wrap64 ((wrap64 ((a0.size : Int) / 2)) - a2)) false _ A14.out).mono ?_
   rintro e w' ⟨rfl, ⟨nd, rfl⟩⟩
   refine ⟨_, rfl, ?_⟩
   refine hK.out _ _ trivial (fun hHeld => ?_)
   clear hK K
   refine norm_ (a' := ?_) ?_ ?_
   rotate_left
   ·show Act.put _ (some 32) _ = _
    simp only [Act.put, sa, i64_w, i32_w]
    rfl
   refine pure_ (i := 9) (N := some 33) (v := ?_) (a' := ?_) impl_IsFactoring.m10 rfl rfl zA (fun _ _ _ h => h) (Or.inl ⟨by rfl, ?_⟩) ?_ ?_
   rotate_left
   ·intro w'
    go_simp
    with_reducible rfl
   rotate_left
   ·exact zP
   refine pure_ (i := 10) (N := some 34) (v := ?_) (a' := ?_) impl_IsFactoring.m11 rfl rfl zA (fun _ _ _ h => h) (Or.inl ⟨by rfl, ?_⟩) ?_ ?_
   rotate_left
   ·intro w'
    go_simp
    with_reducible rfl
   rotate_left
   ·exact zP
   refine pure_ (i := 11) (N := some 35) (v := undef) (a' := ?_) impl_IsFactoring.m12 rfl rfl zA (fun _ _ _ h => h) (Or.inr ⟨by rfl, rfl⟩) ?_ ?_
   rotate_left
   ·exact zP
   refine pure_ (i := 12) (N := some 36) (v := undef) (a' := ?_) impl_IsFactoring.m13 rfl rfl zA (fun _ _ _ h => h) (Or.inr ⟨by rfl, rfl⟩) ?_ ?_
   rotate_left
   ·exact zP
   refine pure_ (i := 13) (N := some 37) (v := undef) (a' := ?_) impl_IsFactoring.m14 rfl rfl zA (fun _ _ _ h => h) (Or.inr ⟨by rfl, rfl⟩) ?_ ?_
   rotate_left
   ·exact zP
   refine pure_ (i := 14) (N := some 38) (v := undef) (a' := ?_) impl_IsFactoring.m15 rfl rfl zA (fun _ _ _ h => h) (Or.inr ⟨by rfl, rfl⟩) ?_ ?_
   rotate_left
   ·exact zP
   refine pure_ (i := 15) (N := some 39) (v := undef) (a' := ?_) impl_IsFactoring.m16 rfl rfl zA (fun _ _ _ h => h) (Or.inr ⟨by rfl, rfl⟩) ?_ ?_
   rotate_left
   ·exact zP
   refine pure_ (i := 16) (N := some 40) (v := undef) (a' := ?_) impl_IsFactoring.m17 rfl rfl zA (fun _ _ _ h => h) (Or.inr ⟨by rfl, rfl⟩) ?_ ?_
   rotate_left
   ·exact zP
   refine pure_ (i := 17) (N := some 41) (v := undef) (a' := ?_) impl_IsFactoring.m18 rfl rfl zA (fun _ _ _ h => h) (Or.inr ⟨by rfl, rfl⟩) ?_ ?_
   rotate_left
   ·exact zP
   refine pure_ (i := 18) (N := some 42) (v := undef) (a' := ?_) impl_IsFactoring.m19 rfl rfl zA (fun _ _ _ h => h) (Or.inr ⟨by rfl, rfl⟩) ?_ ?_
   rotate_left
   ·exact zP
   refine pure_ (i := 19) (N := some 43) (v := undef) (a' := ?_) impl_IsFactoring.m20 rfl rfl zA (fun _ _ _ h => h) (Or.inr ⟨by rfl, rfl⟩) ?_ ?_
   rotate_left
   ·exact zP
   refine pure_ (i := 20) (N := some 44) (v := undef) (a' := ?_) impl_IsFactoring.m21 rfl rfl zA (fun _ _ _ h => h) (Or.inr ⟨by rfl, rfl⟩) ?_ ?_
   rotate_left
   ·exact zP
   refine pure_ (i := 21) (N := some 45) (v := ?_) (a' := ?_) impl_IsFactoring.m22 rfl rfl zA (fun _ _ _ h => h) (Or.inl ⟨by rfl, ?_⟩) ?_ ?_
   rotate_left
   ·intro w'
    go_simp
    with_reducible rfl
   rotate_left
   ·exact zP
   refine pure_ (i := 22) (N := some 8) (v := ?_) (a' := ?_) impl_IsFactoring.m23 rfl rfl zA (fun _ _ _ h => h) (Or.inl ⟨by rfl, ?_⟩) ?_ ?_
   rotate_left
   ·intro w'
    go_simp
    with_reducible rfl
   rotate_left
   ·exact zP
   refine done_ (done_of HT_.out (by kernel_rfl)) ?_
   try go_wp2
   go_ret
   exact ⟨zE, zB⟩
  subst c15
  have H1 : (if 0 ≤ a1 then (if a1 ≤ (a0.size : Int) then (if (a0.extract (a1 : Int).toNat a0.size).size + (a0.extract 0 (a1 : Int).toNat).size ≤ 9223372036854775807 then ((impl_isFactoring.f kj4 ((a0.extract (a1 : Int).toNat a0.size) ++ (a0.extract 0 (a1 : Int).toNat)) a2 a3).bind fun t162 => (some t162)) else (none)) else (none)) else (none)) = some r := by first | (rw [if_pos rfl] at H; exact H) | rfl
  clear H
  have H := H1
  clear H1
  by_cases c16 : 0 ≤ a1
  rotate_left
  ·rw [if_neg c16] at H
   exact absurd H (by simp)
  rw [if_pos c16] at H
  have c16b0 := eq_true c16
  have c16b1 : decide (0 ≤ a1) = true := decide_eq_true c16
  clear c16
  by_cases c17 : a1 ≤ (a0.size : Int)
  rotate_left
  ·rw [if_neg c17] at H
   exact absurd H (by simp)
  rw [if_pos c17] at H
  have c17b0 := eq_true c17
  have c17b1 : decide (a1 ≤ (a0.size : Int)) = true := decide_eq_true c17
  clear c17
  have c18b0 := eq_true (zD : 0 ≤ a1)
  have c19b0 := eq_true (zD : a1 ≤ (a0.size : Int))
  by_cases c20 : (a0.extract (a1 : Int).toNat a0.size).size + (a0.extract 0 (a1 : Int).toNat).size ≤ 9223372036854775807
  rotate_left
  ·rw [if_neg c20] at H
   exact absurd H (by simp)
  rw [if_pos c20] at H
  have c20b0 := eq_true c20
  have c20b1 : decide ((a0.extract (a1 : Int).toNat a0.size).size + (a0.extract 0 (a1 : Int).toNat).size ≤ 9223372036854775807) = true := decide_eq_true c20
  try have c20b2 : (9223372036854775807 < (a0.extract (a1 : Int).toNat a0.size).size + (a0.extract 0 (a1 : Int).toNat).size) = False := eq_false (Nat.not_lt.2 c20)
  try have c20b9 : (9223372036854775807 < a0.size) = False := eq_false (by have h9_ := c20; simp only [ByteArray.size_extract] at h9_; omega)
  replace H := ob H
  obtain ⟨t162, A210, H⟩ := H
  replace H : (some t162) = some r := H
  have A21 := am A210
  clear A210
  obtain rfl := oi H
  try go_wp2
  have n0_ := am (Bb3 HB.out)
  clear HB
  have HB := n0_
  clear n0_
  refine start_ (n := 23) (S := fun w' => True) (ds := []) impl_IsFactoring.m0 (by kernel_rfl) rfl rfl trivial (fun hHeld => ?_); refine with_tabW impl_IsFactoring.tab4 impl_IsFactoring.bits4 (fun HT_ HW_ => ?_)
  generalize wc.drew = w22 at HB hHeld ⊢
  refine pure_ (i := 0) (N := some 24) (v := ?_) (a' := ?_) impl_IsFactoring.m1 rfl rfl zA (fun _ _ _ h => h) (Or.inl ⟨by rfl, ?_⟩) ?_ ?_
  rotate_left
  ·intro w'
   go_simp
   with_reducible rfl
  rotate_left
  ·exact zP
  refine pure_ (i := 1) (N := some 25) (v := ?_) (a' := ?_) impl_IsFactoring.m2 rfl rfl zA (fun _ _ _ h => h) (Or.inl ⟨by rfl, ?_⟩) ?_ ?_
  rotate_left
  ·intro w'
   go_simp
   with_reducible rfl
  rotate_left
  ·exact zP
  refine one_ (i := 2) (N := some 26) impl_IsFactoring.m3 rfl rfl (one_of HT_.out (by kernel_rfl)) (by decide) (fun K hK => ?_)
  refine goes_ Tryd.func31 (by kernel_rfl) rfl #[.int .i64 a2, .int .i64 0, .int .i64 (wrap64 ((a0.size : Int) / 2))] (by rfl) rfl rfl zL ?_
  with_reducible refine (impl_within.calls a2 0 (wrap64 ((a0.size : Int) / 2)) true _ A12.out).mono ?_
  rintro e w' ⟨rfl, ⟨nd, rfl⟩⟩
  refine ⟨_, rfl, ?_⟩
  refine hK.out _ _ trivial (fun hHeld => ?_)
  clear hK K
  refine norm_ (a' := ?_) ?_ ?_
  rotate_left
  ·show Act.put _ (some 26) _ = _
   simp only [Act.put, sa, i64_w, i32_w]
   rfl
  refine pure_ (i := 3) (N := some 27) (v := ?_) (a' := ?_) impl_IsFactoring.m4 rfl rfl zA (fun _ _ _ h => h) (Or.inl ⟨by rfl, ?_⟩) ?_ ?_
  rotate_left
  ·intro w'
   go_simp
   with_reducible rfl
  rotate_left
  ·exact zP
  refine pure_ (i := 4) (N := some 28) (v := ?_) (a' := ?_) impl_IsFactoring.m5 rfl rfl zA (fun _ _ _ h => h) (Or.inl ⟨by rfl, ?_⟩) ?_ ?_
  rotate_left
  ·intro w'
   go_simp
   with_reducible rfl
  rotate_left
  ·exact zP
  refine pure_ (i := 5) (N := some 29) (v := ?_) (a' := ?_) impl_IsFactoring.m6 rfl rfl zA (fun _ _ _ h => h) (Or.inl ⟨by rfl, ?_⟩) ?_ ?_
  rotate_left
  ·intro w'
   go_simp
   with_reducible rfl
  rotate_left
  ·exact zP
  refine pure_ (i := 6) (N := some 30) (v := ?_) (a' := ?_) impl_IsFactoring.m7 rfl rfl zA (fun _ _ _ h => h) (Or.inl ⟨by rfl, ?_⟩) ?_ ?_
  rotate_left
  ·intro w'
   go_simp
   with_reducible rfl
  rotate_left
  ·exact zP
  refine pure_ (i := 7) (N := some 31) (v := ?_) (a' := ?_) impl_IsFactoring.m8 rfl rfl zA (fun _ _ _ h => h) (Or.inl ⟨by rfl, ?_⟩) ?_ ?_
  rotate_left
  ·intro w'
   go_simp
   with_reducible rfl
  rotate_left
  ·exact zP
  refine one_ (i := 8) (N := some 32) impl_IsFactoring.m9 rfl rfl (one_of HT_.out (by kernel_rfl)) (by decide) (fun K hK => ?_)
  refine goes_ Tryd.func31 (by kernel_rfl) rfl #[.int .i64 a3, .int .i64 0, .int .i64 (wrap64 ((wrap64 ((a0.size : Int) / 2)) - a2))] (by rfl) rfl rfl zL ?_
  with_reducible refine (impl_within.calls a3 0 (wrap64 ((wrap64 ((a0.size : Int) / 2)) - a2)) true _ A14.out).mono ?_
  rintro e w' ⟨rfl, ⟨nd, rfl⟩⟩
  refine ⟨_, rfl, ?_⟩
  refine hK.out _ _ trivial (fun hHeld => ?_)
  clear hK K
  refine norm_ (a' := ?_) ?_ ?_
  rotate_left
  ·show Act.put _ (some 32) _ = _
   simp only [Act.put, sa, i64_w, i32_w]
   rfl
  refine pure_ (i := 9) (N := some 33) (v := ?_) (a' := ?_) impl_IsFactoring.m10 rfl rfl zA (fun _ _ _ h => h) (Or.inl ⟨by rfl, ?_⟩) ?_ ?_
  rotate_left
  ·intro w'
   go_simp
   with_reducible rfl
  rotate_left
  ·exact zP
  refine pure_ (i := 10) (N := some 34) (v := ?_) (a' := ?_) impl_IsFactoring.m11 rfl rfl zA (fun _ _ _ h => h) (Or.inl ⟨by rfl, ?_⟩) ?_ ?_
  rotate_left
  ·intro w'
   go_simp
   with_reducible rfl
  rotate_left
  ·exact zP
  refine pure_ (i := 11) (N := some 35) (v := ?_) (a' := ?_) impl_IsFactoring.m12 rfl rfl zA (fun _ _ _ h => h) (Or.inl ⟨by rfl, ?_⟩) ?_ ?_
  rotate_left
  ·intro w'
   go_simp
   with_reducible rfl
  rotate_left
  ·exact zP
  refine pure_ (i := 12) (N := some 36) (v := ?_) (a' := ?_) impl_IsFactoring.m13 rfl rfl zA (fun _ _ _ h => h) (Or.inl ⟨by rfl, ?_⟩) ?_ ?_
  rotate_left
  ·intro w'
   go_simp
   with_reducible rfl
  rotate_left
  ·exact zP
  refine pure_ (i := 13) (N := some 37) (v := ?_) (a' := ?_) impl_IsFactoring.m14 rfl rfl zA (fun _ _ _ h => h) (Or.inl ⟨by rfl, ?_⟩) ?_ ?_
  rotate_left
  ·intro w'
   go_simp
   with_reducible rfl
  rotate_left
  ·exact zP
  refine pure_ (i := 14) (N := some 38) (v := ?_) (a' := ?_) impl_IsFactoring.m15 rfl rfl zA (fun _ _ _ h => h) (Or.inl ⟨by rfl, ?_⟩) ?_ ?_
  rotate_left
  ·intro w'
   go_simp
   with_reducible rfl
  rotate_left
  ·exact zP
  refine pure_ (i := 15) (N := some 39) (v := ?_) (a' := ?_) impl_IsFactoring.m16 rfl rfl zA (fun _ _ _ h => h) (Or.inl ⟨by rfl, ?_⟩) ?_ ?_
  rotate_left
  ·intro w'
   go_simp
   with_reducible rfl
  rotate_left
  ·exact zP
  refine pure_ (i := 16) (N := some 40) (v := ?_) (a' := ?_) impl_IsFactoring.m17 rfl rfl zA (fun _ _ _ h => h) (Or.inl ⟨by rfl, ?_⟩) ?_ ?_
  rotate_left
  ·intro w'
   go_simp
   with_reducible rfl
  rotate_left
  ·exact zP
  refine pure_ (i := 17) (N := some 41) (v := ?_) (a' := ?_) impl_IsFactoring.m18 rfl rfl zA (fun _ _ _ h => h) (Or.inl ⟨by rfl, ?_⟩) ?_ ?_
  rotate_left
  ·intro w'
   go_simp
   with_reducible rfl
  rotate_left
  ·exact zP
  refine pure_ (i := 18) (N := some 42) (v := ?_) (a' := ?_) impl_IsFactoring.m19 rfl rfl zA (fun _ _ _ h => h) (Or.inl ⟨by rfl, ?_⟩) ?_ ?_
  rotate_left
  ·intro w'
   go_simp
   with_reducible rfl
  rotate_left
  ·exact zP
  refine pure_ (i := 19) (N := some 43) (v := ?_) (a' := ?_) impl_IsFactoring.m20 rfl rfl zA (fun _ _ _ h => h) (Or.inl ⟨by rfl, ?_⟩) ?_ ?_
  rotate_left
  ·intro w'
   go_simp
   with_reducible rfl
  rotate_left
  ·exact zP
  refine one_ (i := 20) (N := some 44) impl_IsFactoring.m21 rfl rfl (one_of HT_.out (by kernel_rfl)) (by decide) (fun K hK => ?_)
  refine goes_ Tryd.func41 (by kernel_rfl) rfl #[.string ((a0.extract (a1 : Int).toNat a0.size) ++ (a0.extract 0 (a1 : Int).toNat)), .int .i64 a2, .int .i64 a3] (by rfl) rfl rfl zL ?_
  with_reducible refine (impl_isFactoring.calls kj4 ((a0.extract (a1 : Int).toNat a0.size) ++ (a0.extract 0 (a1 : Int).toNat)) a2 a3 t162 _ A21.out).mono ?_
  rintro e w23 ⟨rfl, hb⟩
  refine ⟨_, rfl, ?_⟩
  have n0_ := am (Bb6 zB hb)
  clear HB
  have HB := n0_
  clear n0_
  (try clear hb)
  (try clear hb2)
  (try clear hk)
  (try clear hi)
  refine hK.out _ _ trivial (fun hHeld => ?_)
  clear hK K
  refine norm_ (a' := ?_) ?_ ?_
  rotate_left
  ·show Act.put _ (some 44) _ = _
   simp only [Act.put, sa, i64_w, i32_w]
   rfl
  refine pure_ (i := 21) (N := some 45) (v := ?_) (a' := ?_) impl_IsFactoring.m22 rfl rfl zA (fun _ _ _ h => h) (Or.inl ⟨by rfl, ?_⟩) ?_ ?_
  rotate_left
  ·intro w'
   go_simp
   with_reducible rfl
  rotate_left
  ·exact zP
  refine pure_ (i := 22) (N := some 8) (v := ?_) (a' := ?_) impl_IsFactoring.m23 rfl rfl zA (fun _ _ _ h => h) (Or.inl ⟨by rfl, ?_⟩) ?_ ?_
  rotate_left
  ·intro w'
   go_simp
   with_reducible rfl
  rotate_left
  ·exact zP
  refine done_ (done_of HT_.out (by kernel_rfl)) ?_
  try go_wp2
  go_ret
  exact ⟨zE, zB⟩

end Go.Proofs.YtcgnnfaemjjljaaDoor.Q
