/- Written by a program of this session (wip/tools/pp.py) out of the translation, with the kit's printer. -/
import Derived.Test.YtpinaeegopdknaaQ0
import Derived.Test.YtpinaeegopdknaaQ2
import Derived.Test.YtpinaeegopdknaaQ3
import Derived.Test.YtpinaeegopdknaaQ4
import Derived.Test.YtpinaeegopdknaaQ5
import Derived.Test.YtpinaeegopdknaaQ6
import Derived.Test.YtpinaeegopdknaaQ1
namespace Go.Proofs.Ytpinaeegopdknaa.Q
open Go.RowKit Go.Proofs.YtpinaeegopdknaaW.PrintWords Go.Proofs.YtpinaeegopdknaaW.PrintLast Go.Proofs.YtpinaeegopdknaaW.PrintMore
attribute [local go_sem] max2_int min2_int max_two min_two max_three min_three max_four min_four
set_option linter.unusedVariables false
set_option linter.unusedSimpArgs false

attribute [local go_sem high] eqA43
/-! ### spec_PatchOf: function 6 -/
abbrev spec_PatchOf.m0 : Array Bool := #[false, false, false, false, false, false, false, false, false, false]
abbrev spec_PatchOf.m1 : Array Bool := #[true, false, false, false, false, false, false, false, false, false]
abbrev spec_PatchOf.m2 : Array Bool := #[true, true, false, false, false, false, false, false, false, false]
abbrev spec_PatchOf.m3 : Array Bool := #[true, true, true, false, false, false, false, false, false, false]
abbrev spec_PatchOf.m4 : Array Bool := #[true, true, true, true, false, false, false, false, false, false]
abbrev spec_PatchOf.m5 : Array Bool := #[true, true, true, true, true, false, false, false, false, false]
abbrev spec_PatchOf.m6 : Array Bool := #[true, true, true, true, true, false, true, false, false, false]
abbrev spec_PatchOf.m7 : Array Bool := #[true, true, true, true, true, false, true, true, false, false]
abbrev spec_PatchOf.m8 : Array Bool := #[true, true, true, true, true, true, true, true, false, false]
abbrev spec_PatchOf.m9 : Array Bool := #[true, true, true, true, true, true, true, true, true, false]
abbrev spec_PatchOf.m10 : Array Bool := #[true, true, true, true, true, true, true, true, true, true]
mutual
def spec_PatchOf.j0 : Nat → List (S43) → Int → Int → Bool → Int → Int → Int → Option (ByteArray × Int)
 | 0, _, _, _, _, _, _, _ => none
 | k + 1, x0, x2, x3, x21, x137000, x137001, x137002 => if x21 = true then (some ((⟨#[]⟩ : ByteArray), 2)) else ((spec_l24Tiles.f k x0 x137000 x137001 x137002).bind fun t141 => (if t141 = true then (spec_PatchOf.l0 k x0 x2 x3 (([] : List Int)) (([] : List (S43))) 0 x137000 x137001 x137002) else (some ((⟨#[]⟩ : ByteArray), 5))))
def spec_PatchOf.l0 : Nat → List (S43) → Int → Int → List Int → List (S43) → Int → Int → Int → Int → Option (ByteArray × Int)
 | 0, _, _, _, _, _, _, _, _, _ => none
 | k + 1, x0, x2, x3, x10, x11, x12, x137000, x137001, x137002 => if x12 < x3 then (if x12 > 0 then (if x10.length < 140737488355328 then (spec_PatchOf.j2 k x0 x2 x3 (x10 ++ [47]) x11 x12 x137000 x137001 x137002) else (none)) else (spec_PatchOf.j2 k x0 x2 x3 x10 x11 x12 x137000 x137001 x137002)) else (some (strOfNums x10, 0))
def spec_PatchOf.j2 : Nat → List (S43) → Int → Int → List Int → List (S43) → Int → Int → Int → Int → Option (ByteArray × Int)
 | 0, _, _, _, _, _, _, _, _, _ => none
 | k + 1, x0, x2, x3, x10, x11, x12, x137000, x137001, x137002 => spec_PatchOf.l1 k x0 x2 x3 x10 x11 x12 0 x137000 x137001 x137002
def spec_PatchOf.l1 : Nat → List (S43) → Int → Int → List Int → List (S43) → Int → Int → Int → Int → Int → Option (ByteArray × Int)
 | 0, _, _, _, _, _, _, _, _, _, _ => none
 | k + 1, x0, x2, x3, x10, x11, x12, x13, x137000, x137001, x137002 => if x13 < x2 then (spec_PatchOf.l2 k x0 x2 x3 x10 x11 x12 x13 0 x137000 x137001 x137002 x13 x12 0 0) else (spec_PatchOf.l0 k x0 x2 x3 x10 x11 (wrap64 (x12 + 1)) x137000 x137001 x137002)
def spec_PatchOf.l2 : Nat → List (S43) → Int → Int → List Int → List (S43) → Int → Int → Int → Int → Int → Int → Int → Int → Int → Int → Option (ByteArray × Int)
 | 0, _, _, _, _, _, _, _, _, _, _, _, _, _, _, _ => none
 | k + 1, x0, x2, x3, x10, x11, x12, x13, x16, x137000, x137001, x137002, x152000, x152001, x153000, x153001 => if x16 < (x0.length : Int) then (if 0 ≤ x16 then ((spec_l24Cell.f ((rd_T43 x0 x16).f0) ((rd_T43 x0 x16).f1) x137000 x137001 x137002).bind fun bt154 => ((spec_l24Cell.f x152000 x152001 x137000 x137001 x137002).bind fun bt156 => (if (bt154.1 == bt156.1 && (bt154.2 == bt156.2)) = true then (spec_PatchOf.l2 k x0 x2 x3 x10 x11 x12 x13 (wrap64 (x16 + 1)) x137000 x137001 x137002 x152000 x152001 (wrap64 (x13 - ((rd_T43 x0 x16).f0))) (wrap64 (x12 - ((rd_T43 x0 x16).f1)))) else (spec_PatchOf.l2 k x0 x2 x3 x10 x11 x12 x13 (wrap64 (x16 + 1)) x137000 x137001 x137002 x152000 x152001 x153000 x153001)))) else (none)) else ((spec_l02Index.f k x11 x153000 x153001).bind fun t160 => (if t160 < 0 then (if x11.length < 8796093022208 then ((some (x11 ++ [(⟨x153000, x153001⟩ : S43)] : List (S43))).bind fun y161 => ((spec_l02Index.f k y161 x153000 x153001).bind fun t164 => (if x10.length < 140737488355328 then (spec_PatchOf.l1 k x0 x2 x3 (x10 ++ [(wrap64 (97 + (Int.tmod t164 26))) % 256]) y161 x12 (wrap64 (x13 + 1)) x137000 x137001 x137002) else (none)))) else (none)) else ((spec_l02Index.f k x11 x153000 x153001).bind fun t168 => (if x10.length < 140737488355328 then (spec_PatchOf.l1 k x0 x2 x3 (x10 ++ [(wrap64 (97 + (Int.tmod t168 26))) % 256]) x11 x12 (wrap64 (x13 + 1)) x137000 x137001 x137002) else (none)))))
end
def spec_PatchOf.f (k : Nat) (l0 : List (S43)) (a1_0 : Int) (a1_1 : Int) (a1_2 : Int) (a2 : Int) (a3 : Int) : Option (ByteArray × Int) := (spec_IsShape.f k l0).bind fun t137 => (if t137 = true then ((spec_IsLattice.f a1_0 a1_1 a1_2).bind fun t138 => (if t138 = true then ((spec_l01In.f a2 1 20).bind fun t139 => (if t139 = true then ((spec_l01In.f a3 1 20).bind fun t140 => (spec_PatchOf.j0 k l0 a2 a3 (!t140) a1_0 a1_1 a1_2)) else (spec_PatchOf.j0 k l0 a2 a3 true a1_0 a1_1 a1_2))) else (spec_PatchOf.j0 k l0 a2 a3 true a1_0 a1_1 a1_2))) else (some ((⟨#[]⟩ : ByteArray), 1)))
theorem spec_PatchOf.mono_l : ∀ k, (∀ y0 y1 y2 y3 y4 y5 y6, LeO (spec_PatchOf.j0 k y0 y1 y2 y3 y4 y5 y6) (spec_PatchOf.j0 (k + 1) y0 y1 y2 y3 y4 y5 y6)) ∧ (∀ y0 y1 y2 y3 y4 y5 y6 y7 y8, LeO (spec_PatchOf.l0 k y0 y1 y2 y3 y4 y5 y6 y7 y8) (spec_PatchOf.l0 (k + 1) y0 y1 y2 y3 y4 y5 y6 y7 y8)) ∧ (∀ y0 y1 y2 y3 y4 y5 y6 y7 y8, LeO (spec_PatchOf.j2 k y0 y1 y2 y3 y4 y5 y6 y7 y8) (spec_PatchOf.j2 (k + 1) y0 y1 y2 y3 y4 y5 y6 y7 y8)) ∧ (∀ y0 y1 y2 y3 y4 y5 y6 y7 y8 y9, LeO (spec_PatchOf.l1 k y0 y1 y2 y3 y4 y5 y6 y7 y8 y9) (spec_PatchOf.l1 (k + 1) y0 y1 y2 y3 y4 y5 y6 y7 y8 y9)) ∧ (∀ y0 y1 y2 y3 y4 y5 y6 y7 y8 y9 y10 y11 y12 y13 y14, LeO (spec_PatchOf.l2 k y0 y1 y2 y3 y4 y5 y6 y7 y8 y9 y10 y11 y12 y13 y14) (spec_PatchOf.l2 (k + 1) y0 y1 y2 y3 y4 y5 y6 y7 y8 y9 y10 y11 y12 y13 y14))
 | 0 => ⟨fun _ _ _ _ _ _ _ r h => by simp [spec_PatchOf.j0] at h, fun _ _ _ _ _ _ _ _ _ r h => by simp [spec_PatchOf.l0] at h, fun _ _ _ _ _ _ _ _ _ r h => by simp [spec_PatchOf.j2] at h, fun _ _ _ _ _ _ _ _ _ _ r h => by simp [spec_PatchOf.l1] at h, fun _ _ _ _ _ _ _ _ _ _ _ _ _ _ _ r h => by simp [spec_PatchOf.l2] at h⟩
 | k + 1 => by
  obtain ⟨ih0, ih1, ih2, ih3, ih4⟩ := spec_PatchOf.mono_l k
  refine ⟨?_, ?_, ?_, ?_, ?_⟩
  ·intro y0 y1 y2 y3 y4 y5 y6
   unfold spec_PatchOf.j0
   repeat' first
   | (with_reducible exact ih0 _ _ _ _ _ _ _)
   | (with_reducible exact ih1 _ _ _ _ _ _ _ _ _)
   | (with_reducible exact ih2 _ _ _ _ _ _ _ _ _)
   | (with_reducible exact ih3 _ _ _ _ _ _ _ _ _ _)
   | (with_reducible exact ih4 _ _ _ _ _ _ _ _ _ _ _ _ _ _ _)
   | (with_reducible exact spec_IsShape.mono _ _)
   | (with_reducible exact spec_l02Index.mono _ _ _ _)
   | (with_reducible exact spec_l24Tiles.mono _ _ _ _ _)
   | (with_reducible exact LeO.refl _)
   | (with_reducible exact LeO.none _)
   | (with_reducible refine LeO.ite ?_ ?_)
   | (with_reducible refine LeO.bind ?_ (fun _ => ?_))
   | exact ih0 _ _ _ _ _ _ _
   | exact ih1 _ _ _ _ _ _ _ _ _
   | exact ih2 _ _ _ _ _ _ _ _ _
   | exact ih3 _ _ _ _ _ _ _ _ _ _
   | exact ih4 _ _ _ _ _ _ _ _ _ _ _ _ _ _ _
   | exact spec_IsShape.mono _ _
   | exact spec_l02Index.mono _ _ _ _
   | exact spec_l24Tiles.mono _ _ _ _ _
   | exact LeO.none _
   | refine LeO.ite ?_ ?_
   | refine LeO.bind ?_ (fun _ => ?_)
  ·intro y0 y1 y2 y3 y4 y5 y6 y7 y8
   unfold spec_PatchOf.l0
   repeat' first
   | (with_reducible exact ih0 _ _ _ _ _ _ _)
   | (with_reducible exact ih1 _ _ _ _ _ _ _ _ _)
   | (with_reducible exact ih2 _ _ _ _ _ _ _ _ _)
   | (with_reducible exact ih3 _ _ _ _ _ _ _ _ _ _)
   | (with_reducible exact ih4 _ _ _ _ _ _ _ _ _ _ _ _ _ _ _)
   | (with_reducible exact spec_IsShape.mono _ _)
   | (with_reducible exact spec_l02Index.mono _ _ _ _)
   | (with_reducible exact spec_l24Tiles.mono _ _ _ _ _)
   | (with_reducible exact LeO.refl _)
   | (with_reducible exact LeO.none _)
   | (with_reducible refine LeO.ite ?_ ?_)
   | (with_reducible refine LeO.bind ?_ (fun _ => ?_))
   | exact ih0 _ _ _ _ _ _ _
   | exact ih1 _ _ _ _ _ _ _ _ _
   | exact ih2 _ _ _ _ _ _ _ _ _
   | exact ih3 _ _ _ _ _ _ _ _ _ _
   | exact ih4 _ _ _ _ _ _ _ _ _ _ _ _ _ _ _
   | exact spec_IsShape.mono _ _
   | exact spec_l02Index.mono _ _ _ _
   | exact spec_l24Tiles.mono _ _ _ _ _
   | exact LeO.none _
   | refine LeO.ite ?_ ?_
   | refine LeO.bind ?_ (fun _ => ?_)
  ·intro y0 y1 y2 y3 y4 y5 y6 y7 y8
   unfold spec_PatchOf.j2
   repeat' first
   | (with_reducible exact ih0 _ _ _ _ _ _ _)
   | (with_reducible exact ih1 _ _ _ _ _ _ _ _ _)
   | (with_reducible exact ih2 _ _ _ _ _ _ _ _ _)
   | (with_reducible exact ih3 _ _ _ _ _ _ _ _ _ _)
   | (with_reducible exact ih4 _ _ _ _ _ _ _ _ _ _ _ _ _ _ _)
   | (with_reducible exact spec_IsShape.mono _ _)
   | (with_reducible exact spec_l02Index.mono _ _ _ _)
   | (with_reducible exact spec_l24Tiles.mono _ _ _ _ _)
   | (with_reducible exact LeO.refl _)
   | (with_reducible exact LeO.none _)
   | (with_reducible refine LeO.ite ?_ ?_)
   | (with_reducible refine LeO.bind ?_ (fun _ => ?_))
   | exact ih0 _ _ _ _ _ _ _
   | exact ih1 _ _ _ _ _ _ _ _ _
   | exact ih2 _ _ _ _ _ _ _ _ _
   | exact ih3 _ _ _ _ _ _ _ _ _ _
   | exact ih4 _ _ _ _ _ _ _ _ _ _ _ _ _ _ _
   | exact spec_IsShape.mono _ _
   | exact spec_l02Index.mono _ _ _ _
   | exact spec_l24Tiles.mono _ _ _ _ _
   | exact LeO.none _
   | refine LeO.ite ?_ ?_
   | refine LeO.bind ?_ (fun _ => ?_)
  ·intro y0 y1 y2 y3 y4 y5 y6 y7 y8 y9
   unfold spec_PatchOf.l1
   repeat' first
   | (with_reducible exact ih0 _ _ _ _ _ _ _)
   | (with_reducible exact ih1 _ _ _ _ _ _ _ _ _)
   | (with_reducible exact ih2 _ _ _ _ _ _ _ _ _)
   | (with_reducible exact ih3 _ _ _ _ _ _ _ _ _ _)
   | (with_reducible exact ih4 _ _ _ _ _ _ _ _ _ _ _ _ _ _ _)
   | (with_reducible exact spec_IsShape.mono _ _)
   | (with_reducible exact spec_l02Index.mono _ _ _ _)
   | (with_reducible exact spec_l24Tiles.mono _ _ _ _ _)
   | (with_reducible exact LeO.refl _)
   | (with_reducible exact LeO.none _)
   | (with_reducible refine LeO.ite ?_ ?_)
   | (with_reducible refine LeO.bind ?_ (fun _ => ?_))
   | exact ih0 _ _ _ _ _ _ _
   | exact ih1 _ _ _ _ _ _ _ _ _
   | exact ih2 _ _ _ _ _ _ _ _ _
   | exact ih3 _ _ _ _ _ _ _ _ _ _
   | exact ih4 _ _ _ _ _ _ _ _ _ _ _ _ _ _ _
   | exact spec_IsShape.mono _ _
   | exact spec_l02Index.mono _ _ _ _
   | exact spec_l24Tiles.mono _ _ _ _ _
   | exact LeO.none _
   | refine LeO.ite ?_ ?_
   | refine LeO.bind ?_ (fun _ => ?_)
  ·intro y0 y1 y2 y3 y4 y5 y6 y7 y8 y9 y10 y11 y12 y13 y14
   unfold spec_PatchOf.l2
   repeat' first
   | (with_reducible exact ih0 _ _ _ _ _ _ _)
   | (with_reducible exact ih1 _ _ _ _ _ _ _ _ _)
   | (with_reducible exact ih2 _ _ _ _ _ _ _ _ _)
   | (with_reducible exact ih3 _ _ _ _ _ _ _ _ _ _)
   | (with_reducible exact ih4 _ _ _ _ _ _ _ _ _ _ _ _ _ _ _)
   | (with_reducible exact spec_IsShape.mono _ _)
   | (with_reducible exact spec_l02Index.mono _ _ _ _)
   | (with_reducible exact spec_l24Tiles.mono _ _ _ _ _)
   | (with_reducible exact LeO.refl _)
   | (with_reducible exact LeO.none _)
   | (with_reducible refine LeO.ite ?_ ?_)
   | (with_reducible refine LeO.bind ?_ (fun _ => ?_))
   | exact ih0 _ _ _ _ _ _ _
   | exact ih1 _ _ _ _ _ _ _ _ _
   | exact ih2 _ _ _ _ _ _ _ _ _
   | exact ih3 _ _ _ _ _ _ _ _ _ _
   | exact ih4 _ _ _ _ _ _ _ _ _ _ _ _ _ _ _
   | exact spec_IsShape.mono _ _
   | exact spec_l02Index.mono _ _ _ _
   | exact spec_l24Tiles.mono _ _ _ _ _
   | exact LeO.none _
   | refine LeO.ite ?_ ?_
   | refine LeO.bind ?_ (fun _ => ?_)
theorem spec_PatchOf.mono : ∀ a0 a1 a2 a3 a4 a5 k, LeO (spec_PatchOf.f k a0 a1 a2 a3 a4 a5) (spec_PatchOf.f (k + 1) a0 a1 a2 a3 a4 a5) := by
 intro a0 a1 a2 a3 a4 a5 k
 obtain ⟨ih0, ih1, ih2, ih3, ih4⟩ := spec_PatchOf.mono_l k
 unfold spec_PatchOf.f
 repeat' first
   | (with_reducible exact ih0 _ _ _ _ _ _ _)
   | (with_reducible exact ih1 _ _ _ _ _ _ _ _ _)
   | (with_reducible exact ih2 _ _ _ _ _ _ _ _ _)
   | (with_reducible exact ih3 _ _ _ _ _ _ _ _ _ _)
   | (with_reducible exact ih4 _ _ _ _ _ _ _ _ _ _ _ _ _ _ _)
   | (with_reducible exact spec_IsShape.mono _ _)
   | (with_reducible exact spec_l02Index.mono _ _ _ _)
   | (with_reducible exact spec_l24Tiles.mono _ _ _ _ _)
   | (with_reducible exact LeO.refl _)
   | (with_reducible exact LeO.none _)
   | (with_reducible refine LeO.ite ?_ ?_)
   | (with_reducible refine LeO.bind ?_ (fun _ => ?_))
   | exact ih0 _ _ _ _ _ _ _
   | exact ih1 _ _ _ _ _ _ _ _ _
   | exact ih2 _ _ _ _ _ _ _ _ _
   | exact ih3 _ _ _ _ _ _ _ _ _ _
   | exact ih4 _ _ _ _ _ _ _ _ _ _ _ _ _ _ _
   | exact spec_IsShape.mono _ _
   | exact spec_l02Index.mono _ _ _ _
   | exact spec_l24Tiles.mono _ _ _ _ _
   | exact LeO.none _
   | refine LeO.ite ?_ ?_
   | refine LeO.bind ?_ (fun _ => ?_)
def spec_PatchOf.T22 : Bool × List (List Nat × List Nat) := (true, [([], []), ([], []), ([0, 1], [0, 1]), ([2], [2]), ([], []), ([3, 4], [3, 4]), ([], []), ([], []), ([6, 7, 5], [6, 7]), ([5, 8], [5, 8])])
def spec_PatchOf.B22 : List Nat := [0, 0, 3, 7, 0, 31, 0, 0, 255, 511]
theorem spec_PatchOf.tab22 : rtab .any (opsOf Try.f6 22) = spec_PatchOf.T22 := by kernel_rfl
theorem spec_PatchOf.bits22 : waitsOk spec_PatchOf.T22.2 spec_PatchOf.B22 = true := by kernel_rfl
def spec_PatchOf.T23 : Bool × List (List Nat × List Nat) := (true, [([], []), ([], []), ([], []), ([1, 2], [1, 2]), ([3], [3]), ([4], [4]), ([0, 5], [0, 5]), ([], []), ([], []), ([], []), ([8, 9], [8, 9]), ([10], [10]), ([11], [11]), ([7, 12], [7, 12]), ([6, 13], [6, 13]), ([14, 0, 1, 2, 3, 4, 5, 6, 7, 8, 9, 10, 11, 12, 13, 14], [14])])
def spec_PatchOf.B23 : List Nat := [0, 0, 0, 6, 14, 30, 63, 0, 0, 0, 768, 1792, 3840, 8064, 16383, 32767]
theorem spec_PatchOf.tab23 : rtab .any (opsOf Try.f6 23) = spec_PatchOf.T23 := by kernel_rfl
theorem spec_PatchOf.bits23 : waitsOk spec_PatchOf.T23.2 spec_PatchOf.B23 = true := by kernel_rfl
set_option maxHeartbeats 8000000 in
set_option maxRecDepth 100000 in
theorem spec_PatchOf.calls (k : Nat) (A0 : Option Addr) (c0 : Nat) (l0 : List (S43)) (a1_0 : Int) (a1_1 : Int) (a1_2 : Int) (a2 : Int) (a3 : Int) (r1 : ByteArray) (r2 : Int) (w : World) (hr0 : Kd.C k43 w A0 l0.length l0) (hc0 : l0.length ≤ c0) (h : spec_PatchOf.f k l0 a1_0 a1_1 a1_2 a2 a3 = some (r1, r2)) :
  Calls Try.prog 6 #[.slice A0 l0.length c0, .agg #[.int .i64 a1_0, .int .i64 a1_1, .int .i64 a1_2], .int .i64 a2, .int .i64 a3] w fun e w' => e = .returned (.tuple #[.string r1, .int .i64 r2]) ∧ Below w.heap.size w w' := by
 have hu30 := Try.underlying30
 have hu43 := Try.underlying43
 have HR0 := am hr0
 have HC0 := am hc0
 clear hr0 hc0
 have HB := am (Below.refl w.heap.size w)
 have H : ((spec_IsShape.f k l0).bind fun t137 => (if t137 = true then ((spec_IsLattice.f a1_0 a1_1 a1_2).bind fun t138 => (if t138 = true then ((spec_l01In.f a2 1 20).bind fun t139 => (if t139 = true then ((spec_l01In.f a3 1 20).bind fun t140 => (spec_PatchOf.j0 k l0 a2 a3 (!t140) a1_0 a1_1 a1_2)) else (spec_PatchOf.j0 k l0 a2 a3 true a1_0 a1_1 a1_2))) else (spec_PatchOf.j0 k l0 a2 a3 true a1_0 a1_1 a1_2))) else (some ((⟨#[]⟩ : ByteArray), 1)))) = some (r1, r2) := h
 clear h
 replace H := ob H
 obtain ⟨t137, A50, H⟩ := H
 replace H : (if t137 = true then ((spec_IsLattice.f a1_0 a1_1 a1_2).bind fun t138 => (if t138 = true then ((spec_l01In.f a2 1 20).bind fun t139 => (if t139 = true then ((spec_l01In.f a3 1 20).bind fun t140 => (spec_PatchOf.j0 k l0 a2 a3 (!t140) a1_0 a1_1 a1_2)) else (spec_PatchOf.j0 k l0 a2 a3 true a1_0 a1_1 a1_2))) else (spec_PatchOf.j0 k l0 a2 a3 true a1_0 a1_1 a1_2))) else (some ((⟨#[]⟩ : ByteArray), 1))) = some (r1, r2) := H
 have A5 := am A50
 clear A50
 by_cases c6 : t137 = true
 ·subst c6
  have H1 : ((spec_IsLattice.f a1_0 a1_1 a1_2).bind fun t138 => (if t138 = true then ((spec_l01In.f a2 1 20).bind fun t139 => (if t139 = true then ((spec_l01In.f a3 1 20).bind fun t140 => (spec_PatchOf.j0 k l0 a2 a3 (!t140) a1_0 a1_1 a1_2)) else (spec_PatchOf.j0 k l0 a2 a3 true a1_0 a1_1 a1_2))) else (spec_PatchOf.j0 k l0 a2 a3 true a1_0 a1_1 a1_2))) = some (r1, r2) := by first | (rw [if_pos rfl] at H; exact H) | rfl
  clear H
  have H := H1
  clear H1
  have HC7 := am H
  clear H
  go_enter Try.func6, Try.ntmps6
  go_upto_region 3 with (first | ((with_reducible refine gate_dst (N := 5) rfl ?_); refine box_event ?hg (N := 5) ?hd (cs := #[.int .i64 a1_0, .int .i64 a1_1, .int .i64 a1_2]) (t := 30) ?hr ?_; (case hd => rfl); (case hg => rfl); (case hr => first | (go_simp; done) | (go_simp; rfl)); intro gb136 hg w8 hbox hb; have n0_ := am (Bb6 (by repeat (first | (with_reducible first | exact HB.out | apply Bb1 | apply Bb2 | apply Bb3) | exact HB.out)) hb); have n1_ := am (hbox); have n2_ := am ((by rw [hg]; exact (Bb5 (by repeat (first | (with_reducible first | exact HB.out | apply Bb1 | apply Bb2 | apply Bb3) | exact HB.out))) : w.heap.size ≤ gb136)); have n3_ := n2_; clear HB; have HB := n0_; have BK136 := n1_; have GW136 := n2_; have GE136 := n3_; clear n0_ n1_ n2_ n3_; clear hb hbox hg) | ((with_reducible refine gate_callee (f := 13) rfl ?_); refine goesL_ (some 19) rfl rfl Try.func13 (by kernel_rfl) rfl #[.slice A0 l0.length c0] rfl (by (try simp only [List.map_toArray, List.map_cons, List.map_nil]); first | done | rfl | (simp only [List.length_drop, List.length_take]; rfl)) ?_; (with_reducible refine (spec_IsShape.calls k _ _ l0 true _ ?side1 ?side2 A5.out).mono ?_); (case side1 => repeat (first | exact (Kd.C_below HR0.out HB.out) | (with_reducible refine Kd.C_alloc ?_ _) | (with_reducible refine Kd.C_drewN ?_ _) | (with_reducible refine Kd.C_drew ?_))); (case side2 => exact HC0.out); rintro e w9 ⟨rfl, hb⟩; refine ⟨_, rfl, ?_⟩; have n0_ := am (Bk4 (g := gb136) (o := .cells #[.int .i64 a1_0, .int .i64 a1_1, .int .i64 a1_2] 30 (0, 0)) (by (with_reducible repeat (first | refine Bk2 ?_ _ | refine Bk3 ?_ | refine Bk1 ?_ _)); exact BK136.out) hb); have n1_ := am (Bb6 (by repeat (first | (with_reducible first | exact HB.out | apply Bb1 | apply Bb2 | apply Bb3 | refine Bb4 ?_ GE136.out) | exact HB.out)) hb); clear BK136; clear HB; have BK136 := n0_; have HB := n1_; clear n0_ n1_; (try clear hb); (try clear hb2); (try clear hk); (try clear hi)))
  (try simp only [Act.put, sa])
  go_cut [21] (fun v21 wc => ∃ (kq : Nat) (x21_6 : Bool), v21 = .bool x21_6 ∧ Aside0 (spec_PatchOf.j0 kq l0 a2 a3 x21_6 a1_0 a1_1 a1_2 = some (r1, r2)) ∧ Aside0 (kq ≤ k) ∧ Aside0 (wc.heap[gb136]? = some (.cells #[.int .i64 a1_0, .int .i64 a1_1, .int .i64 a1_2] 30 (0, 0))) ∧ Aside0 (Below w.heap.size w wc))
  case first =>
   have H := HC7.out
   clear HC7
   replace H := ob H
   obtain ⟨t138, A100, H⟩ := H
   replace H : (if t138 = true then ((spec_l01In.f a2 1 20).bind fun t139 => (if t139 = true then ((spec_l01In.f a3 1 20).bind fun t140 => (spec_PatchOf.j0 k l0 a2 a3 (!t140) a1_0 a1_1 a1_2)) else (spec_PatchOf.j0 k l0 a2 a3 true a1_0 a1_1 a1_2))) else (spec_PatchOf.j0 k l0 a2 a3 true a1_0 a1_1 a1_2)) = some (r1, r2) := H
   have A10 := am A100
   clear A100
   by_cases c11 : t138 = true
   ·subst c11
    have H1 : ((spec_l01In.f a2 1 20).bind fun t139 => (if t139 = true then ((spec_l01In.f a3 1 20).bind fun t140 => (spec_PatchOf.j0 k l0 a2 a3 (!t140) a1_0 a1_1 a1_2)) else (spec_PatchOf.j0 k l0 a2 a3 true a1_0 a1_1 a1_2))) = some (r1, r2) := by first | (rw [if_pos rfl] at H; exact H) | rfl
    clear H
    have H := H1
    clear H1
    replace H := ob H
    obtain ⟨t139, A120, H⟩ := H
    replace H : (if t139 = true then ((spec_l01In.f a3 1 20).bind fun t140 => (spec_PatchOf.j0 k l0 a2 a3 (!t140) a1_0 a1_1 a1_2)) else (spec_PatchOf.j0 k l0 a2 a3 true a1_0 a1_1 a1_2)) = some (r1, r2) := H
    have A12 := am A120
    clear A120
    by_cases c13 : t139 = true
    ·subst c13
     have H1 : ((spec_l01In.f a3 1 20).bind fun t140 => (spec_PatchOf.j0 k l0 a2 a3 (!t140) a1_0 a1_1 a1_2)) = some (r1, r2) := by first | (rw [if_pos rfl] at H; exact H) | rfl
     clear H
     have H := H1
     clear H1
     replace H := ob H
     obtain ⟨t140, A140, H⟩ := H
     replace H : (spec_PatchOf.j0 k l0 a2 a3 (!t140) a1_0 a1_1 a1_2) = some (r1, r2) := H
     have A14 := am A140
     clear A140
     have H' := am H
     clear H
     have hcz15_0 : w9.cell? ⟨gb136, 0, none⟩ = some (.int .i64 a1_0) := (kc BK136.out 0).trans rfl
     have hcz15_1 : w9.cell? ⟨gb136, 1, none⟩ = some (.int .i64 a1_1) := (kc BK136.out 1).trans rfl
     have hcz15_2 : w9.cell? ⟨gb136, 2, none⟩ = some (.int .i64 a1_2) := (kc BK136.out 2).trans rfl
     have hfz15_0 := kf BK136.out 0
     have hfz15_1 := kf BK136.out 1
     have hfz15_2 := kf BK136.out 2
     go_wp2_with (first | ((with_reducible refine gate_callee (f := 14) rfl ?_); refine goesL_ (some 23) rfl rfl Try.func14 (by kernel_rfl) rfl #[.agg #[.int .i64 a1_0, .int .i64 a1_1, .int .i64 a1_2]] rfl (by (try simp only [List.map_toArray, List.map_cons, List.map_nil]); first | done | rfl | (simp only [List.length_drop, List.length_take]; rfl)) ?_; (with_reducible refine (spec_IsLattice.calls a1_0 a1_1 a1_2 true _ A10.out).mono ?_); rintro e w16 ⟨rfl, hb⟩; refine ⟨_, rfl, ?_⟩; have n0_ := am (Bk4 (g := gb136) (o := .cells #[.int .i64 a1_0, .int .i64 a1_1, .int .i64 a1_2] 30 (0, 0)) (by (with_reducible repeat (first | refine Bk2 ?_ _ | refine Bk3 ?_ | refine Bk1 ?_ _)); exact BK136.out) hb); have n1_ := am (Bb6 (by repeat (first | (with_reducible first | exact HB.out | apply Bb1 | apply Bb2 | apply Bb3 | refine Bb4 ?_ GE136.out) | exact HB.out)) hb); clear BK136; clear HB; have BK136 := n0_; have HB := n1_; clear n0_ n1_; (try clear hb); (try clear hb2); (try clear hk); (try clear hi)) | (go_at_call 15; (with_reducible refine (spec_l01In.calls a2 1 20 true _ A12.out).mono ?_); rintro e w' ⟨rfl, ⟨nd, rfl⟩⟩) | (go_at_call 15; (with_reducible refine (spec_l01In.calls a3 1 20 t140 _ A14.out).mono ?_); rintro e w' ⟨rfl, ⟨nd, rfl⟩⟩))
     go_meet
     case rel => exact ⟨_, (!t140), (by first | rfl | (simp; done) | (simp [*]; done)), H', ⟨by first | omega | exact Nat.le_refl _⟩, ⟨by (with_reducible repeat (first | refine Bk2 ?_ _ | refine Bk3 ?_ | refine Bk1 ?_ _)); exact BK136.out⟩, ⟨by repeat (first | (with_reducible first | exact HB.out | apply Bb1 | apply Bb2 | apply Bb3 | refine Bb4 ?_ GE136.out) | exact HB.out)⟩⟩
    ·replace c13 := ef c13
     subst c13
     have H1 : (spec_PatchOf.j0 k l0 a2 a3 true a1_0 a1_1 a1_2) = some (r1, r2) := by first | (rw [if_neg (show ¬ (false = true) by decide)] at H; exact H) | rfl
     clear H
     have H := H1
     clear H1
     have H' := am H
     clear H
     have hcz17_0 : w9.cell? ⟨gb136, 0, none⟩ = some (.int .i64 a1_0) := (kc BK136.out 0).trans rfl
     have hcz17_1 : w9.cell? ⟨gb136, 1, none⟩ = some (.int .i64 a1_1) := (kc BK136.out 1).trans rfl
     have hcz17_2 : w9.cell? ⟨gb136, 2, none⟩ = some (.int .i64 a1_2) := (kc BK136.out 2).trans rfl
     have hfz17_0 := kf BK136.out 0
     have hfz17_1 := kf BK136.out 1
     have hfz17_2 := kf BK136.out 2
     go_wp2_with (first | ((with_reducible refine gate_callee (f := 14) rfl ?_); refine goesL_ (some 23) rfl rfl Try.func14 (by kernel_rfl) rfl #[.agg #[.int .i64 a1_0, .int .i64 a1_1, .int .i64 a1_2]] rfl (by (try simp only [List.map_toArray, List.map_cons, List.map_nil]); first | done | rfl | (simp only [List.length_drop, List.length_take]; rfl)) ?_; (with_reducible refine (spec_IsLattice.calls a1_0 a1_1 a1_2 true _ A10.out).mono ?_); rintro e w18 ⟨rfl, hb⟩; refine ⟨_, rfl, ?_⟩; have n0_ := am (Bk4 (g := gb136) (o := .cells #[.int .i64 a1_0, .int .i64 a1_1, .int .i64 a1_2] 30 (0, 0)) (by (with_reducible repeat (first | refine Bk2 ?_ _ | refine Bk3 ?_ | refine Bk1 ?_ _)); exact BK136.out) hb); have n1_ := am (Bb6 (by repeat (first | (with_reducible first | exact HB.out | apply Bb1 | apply Bb2 | apply Bb3 | refine Bb4 ?_ GE136.out) | exact HB.out)) hb); clear BK136; clear HB; have BK136 := n0_; have HB := n1_; clear n0_ n1_; (try clear hb); (try clear hb2); (try clear hk); (try clear hi)) | (go_at_call 15; (with_reducible refine (spec_l01In.calls a2 1 20 false _ A12.out).mono ?_); rintro e w' ⟨rfl, ⟨nd, rfl⟩⟩))
     go_meet
     case rel => exact ⟨_, (true), (by first | rfl | (simp; done) | (simp [*]; done)), H', ⟨by first | omega | exact Nat.le_refl _⟩, ⟨by (with_reducible repeat (first | refine Bk2 ?_ _ | refine Bk3 ?_ | refine Bk1 ?_ _)); exact BK136.out⟩, ⟨by repeat (first | (with_reducible first | exact HB.out | apply Bb1 | apply Bb2 | apply Bb3 | refine Bb4 ?_ GE136.out) | exact HB.out)⟩⟩
   ·replace c11 := ef c11
    subst c11
    have H1 : (spec_PatchOf.j0 k l0 a2 a3 true a1_0 a1_1 a1_2) = some (r1, r2) := by first | (rw [if_neg (show ¬ (false = true) by decide)] at H; exact H) | rfl
    clear H
    have H := H1
    clear H1
    have H' := am H
    clear H
    have hcz19_0 : w9.cell? ⟨gb136, 0, none⟩ = some (.int .i64 a1_0) := (kc BK136.out 0).trans rfl
    have hcz19_1 : w9.cell? ⟨gb136, 1, none⟩ = some (.int .i64 a1_1) := (kc BK136.out 1).trans rfl
    have hcz19_2 : w9.cell? ⟨gb136, 2, none⟩ = some (.int .i64 a1_2) := (kc BK136.out 2).trans rfl
    have hfz19_0 := kf BK136.out 0
    have hfz19_1 := kf BK136.out 1
    have hfz19_2 := kf BK136.out 2
    go_wp2_with (first | ((with_reducible refine gate_callee (f := 14) rfl ?_); refine goesL_ (some 23) rfl rfl Try.func14 (by kernel_rfl) rfl #[.agg #[.int .i64 a1_0, .int .i64 a1_1, .int .i64 a1_2]] rfl (by (try simp only [List.map_toArray, List.map_cons, List.map_nil]); first | done | rfl | (simp only [List.length_drop, List.length_take]; rfl)) ?_; (with_reducible refine (spec_IsLattice.calls a1_0 a1_1 a1_2 false _ A10.out).mono ?_); rintro e w20 ⟨rfl, hb⟩; refine ⟨_, rfl, ?_⟩; have n0_ := am (Bk4 (g := gb136) (o := .cells #[.int .i64 a1_0, .int .i64 a1_1, .int .i64 a1_2] 30 (0, 0)) (by (with_reducible repeat (first | refine Bk2 ?_ _ | refine Bk3 ?_ | refine Bk1 ?_ _)); exact BK136.out) hb); have n1_ := am (Bb6 (by repeat (first | (with_reducible first | exact HB.out | apply Bb1 | apply Bb2 | apply Bb3 | refine Bb4 ?_ GE136.out) | exact HB.out)) hb); clear BK136; clear HB; have BK136 := n0_; have HB := n1_; clear n0_ n1_; (try clear hb); (try clear hb2); (try clear hk); (try clear hi)))
    go_meet
    case rel => exact ⟨_, (true), (by first | rfl | (simp; done) | (simp [*]; done)), H', ⟨by first | omega | exact Nat.le_refl _⟩, ⟨by (with_reducible repeat (first | refine Bk2 ?_ _ | refine Bk3 ?_ | refine Bk1 ?_ _)); exact BK136.out⟩, ⟨by repeat (first | (with_reducible first | exact HB.out | apply Bb1 | apply Bb2 | apply Bb3 | refine Bb4 ?_ GE136.out) | exact HB.out)⟩⟩
  case rest =>
   clear HC7
   try clear c1
   try clear p2
   try clear c6
   try clear c11
   try clear c13
   try clear c14
   try clear hcz15_0
   try clear hcz15_1
   try clear hcz15_2
   try clear hcz17_0
   try clear hcz17_1
   try clear hcz17_2
   try clear hcz19_0
   try clear hcz19_1
   try clear hcz19_2
   try clear hfz15_0
   try clear hfz15_1
   try clear hfz15_2
   try clear hfz17_0
   try clear hfz17_1
   try clear hfz17_2
   try clear hfz19_0
   try clear hfz19_1
   try clear hfz19_2
   obtain ⟨kq, x21_6, rfl, HA, HJ6, BK136, HB⟩ := hcut
   cases kq with
   | zero => exact absurd HA.out (by simp [spec_PatchOf.j0])
   | succ kj6 =>
    have H := HA.out
    clear HA
    simp only [spec_PatchOf.j0] at H
    by_cases c21 : x21_6 = true
    ·subst c21
     have H1 : (some ((⟨#[]⟩ : ByteArray), 2)) = some (r1, r2) := by first | (rw [if_pos rfl] at H; exact H) | rfl
     clear H
     have H := H1
     clear H1
     simp only [Option.some.injEq, Prod.mk.injEq] at H
     obtain ⟨rfl, rfl⟩ := H
     go_wp2
     go_ret2
     exact ⟨by first | rfl | (simp [errW_none, errW_some] <;> rfl) | (simp [*, errW_none, errW_some] <;> rfl), by repeat (first | (with_reducible first | exact HB.out | apply Bb1 | apply Bb2 | apply Bb3 | refine Bb4 ?_ GE136.out) | exact HB.out)⟩
    ·replace c21 := ef c21
     subst c21
     have H1 : ((spec_l24Tiles.f kj6 l0 a1_0 a1_1 a1_2).bind fun t141 => (if t141 = true then (spec_PatchOf.l0 kj6 l0 a2 a3 (([] : List Int)) (([] : List (S43))) 0 a1_0 a1_1 a1_2) else (some ((⟨#[]⟩ : ByteArray), 5)))) = some (r1, r2) := by first | (rw [if_neg (show ¬ (false = true) by decide)] at H; exact H) | rfl
     clear H
     have H := H1
     clear H1
     replace H := ob H
     obtain ⟨t141, A220, H⟩ := H
     replace H : (if t141 = true then (spec_PatchOf.l0 kj6 l0 a2 a3 (([] : List Int)) (([] : List (S43))) 0 a1_0 a1_1 a1_2) else (some ((⟨#[]⟩ : ByteArray), 5))) = some (r1, r2) := H
     have A22 := am A220
     clear A220
     by_cases c23 : t141 = true
     ·subst c23
      have H1 : (spec_PatchOf.l0 kj6 l0 a2 a3 (([] : List Int)) (([] : List (S43))) 0 a1_0 a1_1 a1_2) = some (r1, r2) := by first | (rw [if_pos rfl] at H; exact H) | rfl
      clear H
      have H := H1
      clear H1
      obtain ⟨y142, hy142⟩ : ∃ y_ : List Int, y_ = (([] : List Int)) := ⟨_, rfl⟩
      replace H : (spec_PatchOf.l0 kj6 l0 a2 a3 y142 (([] : List (S43))) 0 a1_0 a1_1 a1_2) = some (r1, r2) := by first | (rw [hy142]; with_reducible exact H) | (have H2_ := (Option.bind_some _ _).symm.trans H; rw [hy142]; with_reducible exact H2_) | (have H2_ := (Option.bind_some _ _).symm.trans H; with_reducible exact H2_) | with_reducible exact H | (rw [hy142]; exact H) | exact H
      have Ny142 := am hy142
      clear hy142
      obtain ⟨y145, hy145⟩ : ∃ y_ : List (S43), y_ = (([] : List (S43))) := ⟨_, rfl⟩
      replace H : (spec_PatchOf.l0 kj6 l0 a2 a3 y142 y145 0 a1_0 a1_1 a1_2) = some (r1, r2) := by first | (rw [hy145]; with_reducible exact H) | (have H2_ := (Option.bind_some _ _).symm.trans H; rw [hy145]; with_reducible exact H2_) | (have H2_ := (Option.bind_some _ _).symm.trans H; with_reducible exact H2_) | with_reducible exact H | (rw [hy145]; exact H) | exact H
      have Ny145 := am hy145
      clear hy145
      have H' := am H
      clear H
      have hcz24_0 : wc.cell? ⟨gb136, 0, none⟩ = some (.int .i64 a1_0) := (kc BK136.out 0).trans rfl
      have hcz24_1 : wc.cell? ⟨gb136, 1, none⟩ = some (.int .i64 a1_1) := (kc BK136.out 1).trans rfl
      have hcz24_2 : wc.cell? ⟨gb136, 2, none⟩ = some (.int .i64 a1_2) := (kc BK136.out 2).trans rfl
      have hfz24_0 := kf BK136.out 0
      have hfz24_1 := kf BK136.out 1
      have hfz24_2 := kf BK136.out 2
      go_wp2_with (first | ((with_reducible refine gate_callee (f := 16) rfl ?_); refine goesL_ (some 38) rfl rfl Try.func16 (by kernel_rfl) rfl #[.slice A0 l0.length c0, .agg #[.int .i64 a1_0, .int .i64 a1_1, .int .i64 a1_2]] rfl (by (try simp only [List.map_toArray, List.map_cons, List.map_nil]); first | done | rfl | (simp only [List.length_drop, List.length_take]; rfl)) ?_; (with_reducible refine (spec_l24Tiles.calls kj6 _ _ l0 a1_0 a1_1 a1_2 true _ ?side1 ?side2 A22.out).mono ?_); (case side1 => repeat (first | exact (Kd.C_below HR0.out HB.out) | (with_reducible refine Kd.C_alloc ?_ _) | (with_reducible refine Kd.C_drewN ?_ _) | (with_reducible refine Kd.C_drew ?_))); (case side2 => exact HC0.out); rintro e w25 ⟨rfl, hb⟩; refine ⟨_, rfl, ?_⟩; have n0_ := am (Bk4 (g := gb136) (o := .cells #[.int .i64 a1_0, .int .i64 a1_1, .int .i64 a1_2] 30 (0, 0)) (by (with_reducible repeat (first | refine Bk2 ?_ _ | refine Bk3 ?_ | refine Bk1 ?_ _)); exact BK136.out) hb); have n1_ := am (Bb6 (by repeat (first | (with_reducible first | exact HB.out | apply Bb1 | apply Bb2 | apply Bb3 | refine Bb4 ?_ GE136.out) | exact HB.out)) hb); clear BK136; clear HB; have BK136 := n0_; have HB := n1_; clear n0_ n1_; (try clear hb); (try clear hb2); (try clear hk); (try clear hi)) | ((with_reducible refine gate_dst (N := 40) rfl ?_); refine Kd.R_lit (Kd.int .u8) _ 5 ?hg (N := 40) ?hd (xs := ([] : List Int)) (inner := []) (ok := fun _ => True) (okp := fun _ => True) ?hr ?hp (fun _ hk => hk) trivial (Below.refl _ _) (Nat.le_refl _) (by simp) ?_; (case hd => rfl); (case hg => rfl); (case hr => first | (go_simp; done) | (go_simp; rfl)); (case hp => exact (Reps.none _ _)); intro v143 w26 ho27 hb hg_ hnew_; clear hg_ hnew_; (first | rw [← Ny142.out] at ho27 | (simp only [Int.reduceToNat] at ho27; rw [← Ny142.out] at ho27)); have n0_ := am (Kd.R_lower ho27 (Bb5 (by repeat (first | (with_reducible first | exact HB.out | apply Bb1 | apply Bb2 | apply Bb3 | refine Bb4 ?_ GE136.out) | exact HB.out)))); have n1_ := am (Bk4 (g := gb136) (o := .cells #[.int .i64 a1_0, .int .i64 a1_1, .int .i64 a1_2] 30 (0, 0)) (by (with_reducible repeat (first | refine Bk2 ?_ _ | refine Bk3 ?_ | refine Bk1 ?_ _)); exact BK136.out) hb); have n2_ := am (Bb6 (by repeat (first | (with_reducible first | exact HB.out | apply Bb1 | apply Bb2 | apply Bb3 | refine Bb4 ?_ GE136.out) | exact HB.out)) hb); clear BK136; clear HB; have HO144 := n0_; have BK136 := n1_; have HB := n2_; clear n0_ n1_ n2_; clear hb ho27) | ((with_reducible refine gate_dst (N := 41) rfl ?_); refine Kd.R_lit k43 _ 43 ?hg (N := 41) ?hd (xs := ([] : List (S43))) (inner := []) (ok := fun _ => True) (okp := fun _ => True) ?hr ?hp (fun _ hk => hk) trivial (Below.refl _ _) (Nat.le_refl _) (by simp) ?_; (case hd => rfl); (case hg => rfl); (case hr => first | (go_simp; done) | (go_simp; rfl)); (case hp => exact (Reps.none _ _)); intro v146 w28 ho29 hb hg_ hnew_; clear hg_ hnew_; (first | rw [← Ny145.out] at ho29 | (simp only [Int.reduceToNat] at ho29; rw [← Ny145.out] at ho29)); have n0_ := am (Kd.R_below (by (with_reducible repeat (first | apply Kd.R_alloc | apply Kd.R_drewN | apply Kd.R_drew)); exact HO144.out) hb); have n1_ := am (Kd.R_lower ho29 (Bb5 (by repeat (first | (with_reducible first | exact HB.out | apply Bb1 | apply Bb2 | apply Bb3 | refine Bb4 ?_ GE136.out) | exact HB.out)))); have n2_ := am (Bk4 (g := gb136) (o := .cells #[.int .i64 a1_0, .int .i64 a1_1, .int .i64 a1_2] 30 (0, 0)) (by (with_reducible repeat (first | refine Bk2 ?_ _ | refine Bk3 ?_ | refine Bk1 ?_ _)); exact BK136.out) hb); have n3_ := am (Bb6 (by repeat (first | (with_reducible first | exact HB.out | apply Bb1 | apply Bb2 | apply Bb3 | refine Bb4 ?_ GE136.out) | exact HB.out)) hb); clear HO144; clear BK136; clear HB; have HO144 := n0_; have HO147 := n1_; have BK136 := n2_; have HB := n3_; clear n0_ n1_ n2_ n3_; clear hb ho29))
      go_loopg [10, 11, 12] kj6 (fun kq v10 v11 v12 w' => ∃ (x10_2 : List Int) (x11_2 : List (S43)) (x12_2 : Int), v12 = .int .i64 x12_2 ∧ Aside0 (spec_PatchOf.l0 kq l0 a2 a3 x10_2 x11_2 x12_2 a1_0 a1_1 a1_2 = some (r1, r2)) ∧ Aside0 (kq ≤ kj6) ∧ Aside0 (Kd.R (Kd.int .u8) 5 w' w.heap.size (fun _ => True) v10 x10_2) ∧ Aside0 (Kd.R k43 43 w' w.heap.size (fun _ => True) v11 x11_2) ∧ Aside0 (w'.heap[gb136]? = some (.cells #[.int .i64 a1_0, .int .i64 a1_1, .int .i64 a1_2] 30 (0, 0))) ∧ Aside0 (Below w.heap.size w w'))
      case atStart => exact ⟨(y142), (y145), (0), (by first | rfl | (simp; done) | (simp [*]; done)), H', ⟨Nat.le_refl _⟩, ⟨by (with_reducible repeat (first | apply Kd.R_alloc | apply Kd.R_drewN | apply Kd.R_drew)); exact HO144.out⟩, ⟨by (with_reducible repeat (first | apply Kd.R_alloc | apply Kd.R_drewN | apply Kd.R_drew)); exact HO147.out⟩, ⟨by (with_reducible repeat (first | refine Bk2 ?_ _ | refine Bk3 ?_ | refine Bk1 ?_ _)); exact BK136.out⟩, ⟨by repeat (first | (with_reducible first | exact HB.out | apply Bb1 | apply Bb2 | apply Bb3 | refine Bb4 ?_ GE136.out) | exact HB.out)⟩⟩
      case round =>
       clear H'
       try clear c1
       try clear c2
       try clear p2
       try clear c6
       try clear c11
       try clear c13
       try clear c14
       try clear c16
       try clear c21
       try clear c23
       try clear hcz15_0
       try clear hcz15_1
       try clear hcz15_2
       try clear hcz17_0
       try clear hcz17_1
       try clear hcz17_2
       try clear hcz19_0
       try clear hcz19_1
       try clear hcz19_2
       try clear hcz24_0
       try clear hcz24_1
       try clear hcz24_2
       try clear hfz15_0
       try clear hfz15_1
       try clear hfz15_2
       try clear hfz17_0
       try clear hfz17_1
       try clear hfz17_2
       try clear hfz19_0
       try clear hfz19_1
       try clear hfz19_2
       try clear hfz24_0
       try clear hfz24_1
       try clear hfz24_2
       try clear p2
       obtain ⟨x10_2, x11_2, x12_2, rfl, HA, HK2, HO_10, HO_11, BK136, HB⟩ := hrel
       cases gk with
       | zero => exact absurd HA.out (by simp [spec_PatchOf.l0])
       | succ k2 =>
        have H := HA.out
        clear HA
        simp only [spec_PatchOf.l0] at H
        by_cases c30 : x12_2 < a3
        ·rw [if_pos c30] at H
         have c30b0 : decide (x12_2 < a3) = true := decide_eq_true c30
         clear c30
         have HC31 := am H
         clear H
         go_upto_if 48 with (fail)
         go_cut [10] (fun v10 wc => ∃ (kq : Nat) (x10_30 : List Int), Aside0 (spec_PatchOf.j2 kq l0 a2 a3 x10_30 x11_2 x12_2 a1_0 a1_1 a1_2 = some (r1, r2)) ∧ Aside0 (kq ≤ k2) ∧ Aside0 (Kd.R (Kd.int .u8) 5 wc w.heap.size (fun _ => True) v10 x10_30) ∧ Aside0 (Kd.R k43 43 wc w.heap.size (fun _ => True) u11 x11_2) ∧ Aside0 (wc.heap[gb136]? = some (.cells #[.int .i64 a1_0, .int .i64 a1_1, .int .i64 a1_2] 30 (0, 0))) ∧ Aside0 (Below w.heap.size w wc))
         case first =>
          have H := HC31.out
          clear HC31
          by_cases c32 : x12_2 > 0
          ·rw [if_pos c32] at H
           have c32b0 : decide (0 < x12_2) = true := decide_eq_true c32
           clear c32
           (first | rw [c32b0] | (simp only [i64_w, i32_w]; rw [c32b0]) | skip)
           by_cases c33 : x10_2.length < 140737488355328
           ·rw [if_pos c33] at H
            have LMc33 := am c33
            clear c33
            obtain ⟨y148, hy148⟩ : ∃ y_ : List Int, y_ = (x10_2 ++ [47]) := ⟨_, rfl⟩
            replace H : (spec_PatchOf.j2 k2 l0 a2 a3 y148 x11_2 x12_2 a1_0 a1_1 a1_2) = some (r1, r2) := by first | (rw [hy148]; with_reducible exact H) | (have H2_ := (Option.bind_some _ _).symm.trans H; rw [hy148]; with_reducible exact H2_) | (have H2_ := (Option.bind_some _ _).symm.trans H; with_reducible exact H2_) | with_reducible exact H | (rw [hy148]; exact H) | exact H
            have Ny148 := am hy148
            clear hy148
            have H' := am H
            clear H
            go_wp2_with (first | ((with_reducible refine gate_builtin (b := .append) (xs := #[.tmp 49, .tmp 50]) rfl ?_); at_builtin; refine Kd.R_append (Kd.int .u8) (w0 := w) w.heap.size rfl (.tmp 49) (.tmp 50) 34 5 (.int .u8 0) 1 rfl Try.underlying34 info5 rfl (by decide) (by omega) u10 x10_2 47 [.int .u8 47] (fun _ => True) (fun _ => False) rfl rfl ?aP (fun _ hk => hk.elim) ?aF ?aO ?aB ?aS ?aL ?_; (case aP => exact rfl); (case aB => exact (by repeat (first | (with_reducible first | exact HB.out | apply Bb1 | apply Bb2 | apply Bb3 | refine Bb4 ?_ GE136.out) | exact HB.out))); (case aF => exact (fun _ _ => trivial)); (case aO => exact (by (with_reducible repeat (first | apply Kd.R_alloc | apply Kd.R_drewN | apply Kd.R_drew)); exact HO_10.out)); (case aS => exact (Bb5 (by repeat (first | (with_reducible first | exact HB.out | apply Bb1 | apply Bb2 | apply Bb3 | refine Bb4 ?_ GE136.out) | exact HB.out)))); (case aL => have := LMc33.out; omega); intro v149 w34 ho hb hg hat; rw [← Ny148.out] at ho; have n0_ := am (Kd.R_over' (by (with_reducible repeat (first | apply Kd.R_alloc | apply Kd.R_drewN | apply Kd.R_drew)); exact HO_11.out) (Kd.R_typed (by (with_reducible repeat (first | apply Kd.R_alloc | apply Kd.R_drewN | apply Kd.R_drew)); exact HO_10.out)) (by decide) hg); have n1_ := am (blk_grown (g := gb136) (o := .cells #[.int .i64 a1_0, .int .i64 a1_1, .int .i64 a1_2] 30 (0, 0)) (by (with_reducible repeat (first | refine Bk2 ?_ _ | refine Bk3 ?_ | refine Bk1 ?_ _)); exact BK136.out) hg (Kd.R_ne HO_10.out BK136.out (by decide))); have n2_ := am (hb); have n3_ := am (ho); clear HO_11; clear BK136; clear HB; clear HO_10; have HO_11 := n0_; have BK136 := n1_; have HB := n2_; have HO150 := n3_; clear n0_ n1_ n2_ n3_; clear ho hb hg hat))
            go_meet
            case rel => exact ⟨_, (y148), H', ⟨by have := HJ6.out; have := HK2.out; first | omega | exact Nat.le_refl _⟩, ⟨by (with_reducible repeat (first | apply Kd.R_alloc | apply Kd.R_drewN | apply Kd.R_drew)); exact HO150.out⟩, ⟨by (with_reducible repeat (first | apply Kd.R_alloc | apply Kd.R_drewN | apply Kd.R_drew)); exact HO_11.out⟩, ⟨by (with_reducible repeat (first | refine Bk2 ?_ _ | refine Bk3 ?_ | refine Bk1 ?_ _)); exact BK136.out⟩, ⟨by repeat (first | (with_reducible first | exact HB.out | apply Bb1 | apply Bb2 | apply Bb3 | refine Bb4 ?_ GE136.out) | exact HB.out)⟩⟩
           ·rw [if_neg c33] at H
            exact absurd H (by simp)
          ·rw [if_neg c32] at H
           have c32b0 : decide (0 < x12_2) = false := decide_eq_false c32
           clear c32
           (first | rw [c32b0] | (simp only [i64_w, i32_w]; rw [c32b0]) | skip)
           have H' := am H
           clear H
           go_wp2
           go_meet
           case rel => exact ⟨_, (x10_2), H', ⟨by have := HJ6.out; have := HK2.out; first | omega | exact Nat.le_refl _⟩, ⟨by (with_reducible repeat (first | apply Kd.R_alloc | apply Kd.R_drewN | apply Kd.R_drew)); exact HO_10.out⟩, ⟨by (with_reducible repeat (first | apply Kd.R_alloc | apply Kd.R_drewN | apply Kd.R_drew)); exact HO_11.out⟩, ⟨by (with_reducible repeat (first | refine Bk2 ?_ _ | refine Bk3 ?_ | refine Bk1 ?_ _)); exact BK136.out⟩, ⟨by repeat (first | (with_reducible first | exact HB.out | apply Bb1 | apply Bb2 | apply Bb3 | refine Bb4 ?_ GE136.out) | exact HB.out)⟩⟩
         case rest =>
          clear HC31
          try clear c1
          try clear c2
          try clear p2
          try clear c3
          try clear c6
          try clear c11
          try clear c13
          try clear c14
          try clear c16
          try clear c21
          try clear c23
          try clear c30
          try clear c30b0
          try clear c32
          try clear c32b0
          try clear c33
          try clear hcz15_0
          try clear hcz15_1
          try clear hcz15_2
          try clear hcz17_0
          try clear hcz17_1
          try clear hcz17_2
          try clear hcz19_0
          try clear hcz19_1
          try clear hcz19_2
          try clear hcz24_0
          try clear hcz24_1
          try clear hcz24_2
          try clear hfz15_0
          try clear hfz15_1
          try clear hfz15_2
          try clear hfz17_0
          try clear hfz17_1
          try clear hfz17_2
          try clear hfz19_0
          try clear hfz19_1
          try clear hfz19_2
          try clear hfz24_0
          try clear hfz24_1
          try clear hfz24_2
          try clear p2
          obtain ⟨kq, x10_30, HA, HJ30, HO_10, HO_11, BK136, HB⟩ := hcut
          cases kq with
          | zero => exact absurd HA.out (by simp [spec_PatchOf.j2])
          | succ kj30 =>
           have H := HA.out
           clear HA
           simp only [spec_PatchOf.j2] at H
           have H' := am H
           clear H
           go_wp2
           go_loopg [10, 11, 13] kj30 (fun kq v10 v11 v13 w' => ∃ (x10_4 : List Int) (x11_4 : List (S43)) (x13_4 : Int), v13 = .int .i64 x13_4 ∧ Aside0 (spec_PatchOf.l1 kq l0 a2 a3 x10_4 x11_4 x12_2 x13_4 a1_0 a1_1 a1_2 = some (r1, r2)) ∧ Aside0 (kq ≤ kj30) ∧ Aside0 (Kd.R (Kd.int .u8) 5 w' w.heap.size (fun _ => True) v10 x10_4) ∧ Aside0 (Kd.R k43 43 w' w.heap.size (fun _ => True) v11 x11_4) ∧ Aside0 (w'.heap[gb136]? = some (.cells #[.int .i64 a1_0, .int .i64 a1_1, .int .i64 a1_2] 30 (0, 0))) ∧ Aside0 (Below w.heap.size w w'))
           case atStart => exact ⟨(x10_30), (x11_2), (0), (by first | rfl | (simp; done) | (simp [*]; done)), H', ⟨Nat.le_refl _⟩, ⟨by (with_reducible repeat (first | apply Kd.R_alloc | apply Kd.R_drewN | apply Kd.R_drew)); exact HO_10.out⟩, ⟨by (with_reducible repeat (first | apply Kd.R_alloc | apply Kd.R_drewN | apply Kd.R_drew)); exact HO_11.out⟩, ⟨by (with_reducible repeat (first | refine Bk2 ?_ _ | refine Bk3 ?_ | refine Bk1 ?_ _)); exact BK136.out⟩, ⟨by repeat (first | (with_reducible first | exact HB.out | apply Bb1 | apply Bb2 | apply Bb3 | refine Bb4 ?_ GE136.out) | exact HB.out)⟩⟩
           case round =>
            clear H'
            try clear c1
            try clear c2
            try clear p2
            try clear c3
            try clear c6
            try clear c11
            try clear c13
            try clear c14
            try clear c16
            try clear c21
            try clear c23
            try clear c30
            try clear c30b0
            try clear c32
            try clear c32b0
            try clear c33
            try clear hcz15_0
            try clear hcz15_1
            try clear hcz15_2
            try clear hcz17_0
            try clear hcz17_1
            try clear hcz17_2
            try clear hcz19_0
            try clear hcz19_1
            try clear hcz19_2
            try clear hcz24_0
            try clear hcz24_1
            try clear hcz24_2
            try clear hfz15_0
            try clear hfz15_1
            try clear hfz15_2
            try clear hfz17_0
            try clear hfz17_1
            try clear hfz17_2
            try clear hfz19_0
            try clear hfz19_1
            try clear hfz19_2
            try clear hfz24_0
            try clear hfz24_1
            try clear hfz24_2
            try clear p2
            obtain ⟨x10_4, x11_4, x13_4, rfl, HA, HK4, HO_10, HO_11, BK136, HB⟩ := hrel
            cases gk with
            | zero => exact absurd HA.out (by simp [spec_PatchOf.l1])
            | succ k4 =>
             have H := HA.out
             clear HA
             simp only [spec_PatchOf.l1] at H
             by_cases c35 : x13_4 < a2
             ·rw [if_pos c35] at H
              have c35b0 : decide (x13_4 < a2) = true := decide_eq_true c35
              clear c35
              have H' := am H
              clear H
              go_wp2_with (first | ((with_reducible refine gate_dst (N := 14) rfl ?_); refine box_event ?hg (N := 14) ?hd (cs := #[.int .i64 0, .int .i64 0]) (t := 43) ?hr ?_; (case hd => rfl); (case hg => rfl); (case hr => first | (go_simp; done) | (go_simp; rfl)); intro gb151 hg w36 hbox hb; have n0_ := am (Kd.R_below (by (with_reducible repeat (first | apply Kd.R_alloc | apply Kd.R_drewN | apply Kd.R_drew)); exact HO_10.out) hb); have n1_ := am (Kd.R_below (Kd.R_elderB (by (with_reducible repeat (first | apply Kd.R_alloc | apply Kd.R_drewN | apply Kd.R_drew)); exact HO_11.out) gb151 (Nat.le_of_eq hg.symm)) hb); have n2_ := am (Bk4 (g := gb136) (o := .cells #[.int .i64 a1_0, .int .i64 a1_1, .int .i64 a1_2] 30 (0, 0)) (by (with_reducible repeat (first | refine Bk2 ?_ _ | refine Bk3 ?_ | refine Bk1 ?_ _)); exact BK136.out) hb); have n3_ := am (Bb6 (by repeat (first | (with_reducible first | exact HB.out | apply Bb1 | apply Bb2 | apply Bb3 | refine Bb4 ?_ GE136.out) | exact HB.out)) hb); have n4_ := am (hbox); have n5_ := am ((by rw [hg]; exact (Bb5 (by repeat (first | (with_reducible first | exact HB.out | apply Bb1 | apply Bb2 | apply Bb3 | refine Bb4 ?_ GE136.out) | exact HB.out))) : w.heap.size ≤ gb151)); have n6_ := n5_; have n7_ := am ((by rw [hg]; exact nl (Bk5 (g := gb136) (o := .cells #[.int .i64 a1_0, .int .i64 a1_1, .int .i64 a1_2] 30 (0, 0)) (by (with_reducible repeat (first | refine Bk2 ?_ _ | refine Bk3 ?_ | refine Bk1 ?_ _)); exact BK136.out)) : gb136 ≠ gb151)); have n8_ := am ((by rw [hg]; exact ng (Bk5 (g := gb136) (o := .cells #[.int .i64 a1_0, .int .i64 a1_1, .int .i64 a1_2] 30 (0, 0)) (by (with_reducible repeat (first | refine Bk2 ?_ _ | refine Bk3 ?_ | refine Bk1 ?_ _)); exact BK136.out)) : gb151 ≠ gb136)); clear HO_10; clear HO_11; clear BK136; clear HB; have HO_10 := n0_; have HO_11 := n1_; have BK136 := n2_; have HB := n3_; have BK151 := n4_; have GW151 := n5_; have GE151 := n6_; have NB136_151 := n7_; have NB151_136 := n8_; clear n0_ n1_ n2_ n3_ n4_ n5_ n6_ n7_ n8_; clear hb hbox hg; have hnb37 := NB151_136.out; have hnc37 := NB136_151.out; have hcz38_0 : w36.cell? ⟨gb151, 0, none⟩ = some (.int .i64 0) := (kc BK151.out 0).trans rfl; have hcz38_1 : w36.cell? ⟨gb151, 1, none⟩ = some (.int .i64 0) := (kc BK151.out 1).trans rfl; have hfz38_0 := kf BK151.out 0; have hfz38_1 := kf BK151.out 1) | ((with_reducible refine gate_dst (N := 15) rfl ?_); refine box_event ?hg (N := 15) ?hd (cs := #[.int .i64 0, .int .i64 0]) (t := 43) ?hr ?_; (case hd => rfl); (case hg => rfl); (case hr => first | (go_simp; done) | (go_simp; rfl)); intro gb152 hg w39 hbox hb; have n0_ := am (Kd.R_below (by (with_reducible repeat (first | apply Kd.R_alloc | apply Kd.R_drewN | apply Kd.R_drew)); exact (Kd.R_mono (Kd.R_far (p := ⟨gb151, 1, none⟩) (Kd.R_far (p := ⟨gb151, 0, none⟩) (Kd.R_types HO_10.out BK151.out (by decide)) (fun _ hk => hk.2) (.int .i64 x13_4)) (fun _ hk => hk.2) (.int .i64 x12_2)) (fun _ h_ => h_.1))) hb); have n1_ := am (Kd.R_below (Kd.R_elderB (by (with_reducible repeat (first | apply Kd.R_alloc | apply Kd.R_drewN | apply Kd.R_drew)); exact (Kd.R_mono (Kd.R_far (p := ⟨gb151, 1, none⟩) (Kd.R_far (p := ⟨gb151, 0, none⟩) (Kd.R_mono HO_11.out (fun k_ hk => (⟨hk, hk.2⟩ : _ ∧ k_ ≠ gb151))) (fun _ hk => hk.2) (.int .i64 x13_4)) (fun _ hk => hk.2) (.int .i64 x12_2)) (fun _ h_ => h_.1))) gb152 (Nat.le_of_eq hg.symm)) hb); have n2_ := am (Bk4 (g := gb136) (o := .cells #[.int .i64 a1_0, .int .i64 a1_1, .int .i64 a1_2] 30 (0, 0)) (by (with_reducible repeat (first | refine Bk2 ?_ _ | refine Bk3 ?_ | refine Bk1 ?_ _)); refine blk_far ?_ NB136_151.out _; (with_reducible repeat (first | refine Bk2 ?_ _ | refine Bk3 ?_ | refine Bk1 ?_ _)); refine blk_far ?_ NB136_151.out _; (with_reducible repeat (first | refine Bk2 ?_ _ | refine Bk3 ?_ | refine Bk1 ?_ _)); exact BK136.out) hb); have n3_ := am (Bk4 (g := gb151) (o := .cells #[.int .i64 x13_4, .int .i64 x12_2] 43 (0, 0)) (by (with_reducible repeat (first | refine Bk2 ?_ _ | refine Bk3 ?_ | refine Bk1 ?_ _)); refine blk_put (cs := #[.int .i64 x13_4, .int .i64 0]) ?_ 1 _ rfl; (with_reducible repeat (first | refine Bk2 ?_ _ | refine Bk3 ?_ | refine Bk1 ?_ _)); refine blk_put (cs := #[.int .i64 0, .int .i64 0]) ?_ 0 _ rfl; (with_reducible repeat (first | refine Bk2 ?_ _ | refine Bk3 ?_ | refine Bk1 ?_ _)); exact BK151.out) hb); have n4_ := am (Bb6 (by repeat (first | (with_reducible first | exact HB.out | apply Bb1 | apply Bb2 | apply Bb3 | refine Bb4 ?_ GE136.out | refine Bb4 ?_ GE151.out) | exact HB.out)) hb); have n5_ := am (hbox); have n6_ := am ((by rw [hg]; exact (Bb5 (by repeat (first | (with_reducible first | exact HB.out | apply Bb1 | apply Bb2 | apply Bb3 | refine Bb4 ?_ GE136.out | refine Bb4 ?_ GE151.out) | exact HB.out))) : w.heap.size ≤ gb152)); have n7_ := n6_; have n8_ := am ((by rw [hg]; exact nl (Bk5 (g := gb136) (o := .cells #[.int .i64 a1_0, .int .i64 a1_1, .int .i64 a1_2] 30 (0, 0)) (by (with_reducible repeat (first | refine Bk2 ?_ _ | refine Bk3 ?_ | refine Bk1 ?_ _)); refine blk_far ?_ NB136_151.out _; (with_reducible repeat (first | refine Bk2 ?_ _ | refine Bk3 ?_ | refine Bk1 ?_ _)); refine blk_far ?_ NB136_151.out _; (with_reducible repeat (first | refine Bk2 ?_ _ | refine Bk3 ?_ | refine Bk1 ?_ _)); exact BK136.out)) : gb136 ≠ gb152)); have n9_ := am ((by rw [hg]; exact ng (Bk5 (g := gb136) (o := .cells #[.int .i64 a1_0, .int .i64 a1_1, .int .i64 a1_2] 30 (0, 0)) (by (with_reducible repeat (first | refine Bk2 ?_ _ | refine Bk3 ?_ | refine Bk1 ?_ _)); refine blk_far ?_ NB136_151.out _; (with_reducible repeat (first | refine Bk2 ?_ _ | refine Bk3 ?_ | refine Bk1 ?_ _)); refine blk_far ?_ NB136_151.out _; (with_reducible repeat (first | refine Bk2 ?_ _ | refine Bk3 ?_ | refine Bk1 ?_ _)); exact BK136.out)) : gb152 ≠ gb136)); have n10_ := am ((by rw [hg]; exact nl (Bk5 (g := gb151) (o := .cells #[.int .i64 x13_4, .int .i64 x12_2] 43 (0, 0)) (by (with_reducible repeat (first | refine Bk2 ?_ _ | refine Bk3 ?_ | refine Bk1 ?_ _)); refine blk_put (cs := #[.int .i64 x13_4, .int .i64 0]) ?_ 1 _ rfl; (with_reducible repeat (first | refine Bk2 ?_ _ | refine Bk3 ?_ | refine Bk1 ?_ _)); refine blk_put (cs := #[.int .i64 0, .int .i64 0]) ?_ 0 _ rfl; (with_reducible repeat (first | refine Bk2 ?_ _ | refine Bk3 ?_ | refine Bk1 ?_ _)); exact BK151.out)) : gb151 ≠ gb152)); have n11_ := am ((by rw [hg]; exact ng (Bk5 (g := gb151) (o := .cells #[.int .i64 x13_4, .int .i64 x12_2] 43 (0, 0)) (by (with_reducible repeat (first | refine Bk2 ?_ _ | refine Bk3 ?_ | refine Bk1 ?_ _)); refine blk_put (cs := #[.int .i64 x13_4, .int .i64 0]) ?_ 1 _ rfl; (with_reducible repeat (first | refine Bk2 ?_ _ | refine Bk3 ?_ | refine Bk1 ?_ _)); refine blk_put (cs := #[.int .i64 0, .int .i64 0]) ?_ 0 _ rfl; (with_reducible repeat (first | refine Bk2 ?_ _ | refine Bk3 ?_ | refine Bk1 ?_ _)); exact BK151.out)) : gb152 ≠ gb151)); clear HO_10; clear HO_11; clear BK136; clear BK151; clear HB; have HO_10 := n0_; have HO_11 := n1_; have BK136 := n2_; have BK151 := n3_; have HB := n4_; have BK152 := n5_; have GW152 := n6_; have GE152 := n7_; have NB136_152 := n8_; have NB152_136 := n9_; have NB151_152 := n10_; have NB152_151 := n11_; clear n0_ n1_ n2_ n3_ n4_ n5_ n6_ n7_ n8_ n9_ n10_ n11_; clear hb hbox hg; have hnb40 := NB152_136.out; have hnc40 := NB136_152.out; have hnb41 := NB152_151.out; have hnc41 := NB151_152.out; have hcz42_0 : w39.cell? ⟨gb152, 0, none⟩ = some (.int .i64 0) := (kc BK152.out 0).trans rfl; have hcz42_1 : w39.cell? ⟨gb152, 1, none⟩ = some (.int .i64 0) := (kc BK152.out 1).trans rfl; have hfz42_0 := kf BK152.out 0; have hfz42_1 := kf BK152.out 1))
              go_loopg [16] k4 (fun kq v16 w' => ∃ (x16_5 : Int) (x153000_5 : Int) (x153001_5 : Int), v16 = .int .i64 x16_5 ∧ Aside0 (spec_PatchOf.l2 kq l0 a2 a3 x10_4 x11_4 x12_2 x13_4 x16_5 a1_0 a1_1 a1_2 x13_4 x12_2 x153000_5 x153001_5 = some (r1, r2)) ∧ Aside0 (kq ≤ k4) ∧ Aside0 (Kd.R (Kd.int .u8) 5 w' w.heap.size (fun _ => True) u10 x10_4) ∧ Aside0 (Kd.R k43 43 w' w.heap.size (fun k_ => k_ ≠ gb151 ∧ k_ ≠ gb152) u11 x11_4) ∧ Aside0 (w'.heap[gb136]? = some (.cells #[.int .i64 a1_0, .int .i64 a1_1, .int .i64 a1_2] 30 (0, 0))) ∧ Aside0 (w'.heap[gb151]? = some (.cells #[.int .i64 x13_4, .int .i64 x12_2] 43 (0, 0))) ∧ Aside0 (w'.heap[gb152]? = some (.cells #[.int .i64 x153000_5, .int .i64 x153001_5] 43 (0, 0))) ∧ Aside0 (Below w.heap.size w w'))
              case atStart => exact ⟨(0), (0), (0), (by first | rfl | (simp; done) | (simp [*]; done)), H', ⟨Nat.le_refl _⟩, ⟨by (with_reducible repeat (first | apply Kd.R_alloc | apply Kd.R_drewN | apply Kd.R_drew)); exact Kd.R_mono (Kd.R_far (p := ⟨gb152, 1, none⟩) (Kd.R_far (p := ⟨gb152, 0, none⟩) (Kd.R_types HO_10.out BK152.out (by decide)) (fun _ hk => hk.2) (.int .i64 0)) (fun _ hk => hk.2) (.int .i64 0)) (fun _ hk => trivial)⟩, ⟨by (with_reducible repeat (first | apply Kd.R_alloc | apply Kd.R_drewN | apply Kd.R_drew)); exact Kd.R_mono (Kd.R_far (p := ⟨gb152, 1, none⟩) (Kd.R_far (p := ⟨gb152, 0, none⟩) (Kd.R_mono HO_11.out (fun k_ hk => (⟨hk, hk.2⟩ : _ ∧ k_ ≠ gb152))) (fun _ hk => hk.2) (.int .i64 0)) (fun _ hk => hk.2) (.int .i64 0)) (fun _ hk => ⟨hk.1.1.2, hk.1.2⟩)⟩, ⟨by (with_reducible repeat (first | refine Bk2 ?_ _ | refine Bk3 ?_ | refine Bk1 ?_ _)); refine blk_far ?_ NB136_152.out _; (with_reducible repeat (first | refine Bk2 ?_ _ | refine Bk3 ?_ | refine Bk1 ?_ _)); refine blk_far ?_ NB136_152.out _; (with_reducible repeat (first | refine Bk2 ?_ _ | refine Bk3 ?_ | refine Bk1 ?_ _)); exact BK136.out⟩, ⟨by (with_reducible repeat (first | refine Bk2 ?_ _ | refine Bk3 ?_ | refine Bk1 ?_ _)); refine blk_far ?_ NB151_152.out _; (with_reducible repeat (first | refine Bk2 ?_ _ | refine Bk3 ?_ | refine Bk1 ?_ _)); refine blk_far ?_ NB151_152.out _; (with_reducible repeat (first | refine Bk2 ?_ _ | refine Bk3 ?_ | refine Bk1 ?_ _)); exact BK151.out⟩, ⟨by (with_reducible repeat (first | refine Bk2 ?_ _ | refine Bk3 ?_ | refine Bk1 ?_ _)); refine blk_put (cs := #[.int .i64 0, .int .i64 0]) ?_ 1 _ rfl; (with_reducible repeat (first | refine Bk2 ?_ _ | refine Bk3 ?_ | refine Bk1 ?_ _)); refine blk_put (cs := #[.int .i64 0, .int .i64 0]) ?_ 0 _ rfl; (with_reducible repeat (first | refine Bk2 ?_ _ | refine Bk3 ?_ | refine Bk1 ?_ _)); exact BK152.out⟩, ⟨by repeat (first | (with_reducible first | exact HB.out | apply Bb1 | apply Bb2 | apply Bb3 | refine Bb4 ?_ GE136.out | refine Bb4 ?_ GE151.out | refine Bb4 ?_ GE152.out) | exact HB.out)⟩⟩
              case round =>
               clear H'
               try clear c1
               try clear c2
               try clear p2
               try clear c3
               try clear c4
               try clear c6
               try clear c11
               try clear c13
               try clear c14
               try clear c16
               try clear c21
               try clear c23
               try clear c30
               try clear c30b0
               try clear c32
               try clear c32b0
               try clear c33
               try clear c35
               try clear c35b0
               try clear c37
               try clear c40
               try clear c41
               try clear hcz15_0
               try clear hcz15_1
               try clear hcz15_2
               try clear hcz17_0
               try clear hcz17_1
               try clear hcz17_2
               try clear hcz19_0
               try clear hcz19_1
               try clear hcz19_2
               try clear hcz24_0
               try clear hcz24_1
               try clear hcz24_2
               try clear hcz38_0
               try clear hcz38_1
               try clear hcz42_0
               try clear hcz42_1
               try clear hfz15_0
               try clear hfz15_1
               try clear hfz15_2
               try clear hfz17_0
               try clear hfz17_1
               try clear hfz17_2
               try clear hfz19_0
               try clear hfz19_1
               try clear hfz19_2
               try clear hfz24_0
               try clear hfz24_1
               try clear hfz24_2
               try clear hfz38_0
               try clear hfz38_1
               try clear hfz42_0
               try clear hfz42_1
               try clear p2
               obtain ⟨x16_5, x153000_5, x153001_5, rfl, HA, HK5, HO_10, HO_11, BK136, BK151, BK152, HB⟩ := hrel
               cases gk with
               | zero => exact absurd HA.out (by simp [spec_PatchOf.l2])
               | succ k5 =>
                have H := HA.out
                clear HA
                simp only [spec_PatchOf.l2] at H
                by_cases c43 : x16_5 < (l0.length : Int)
                ·rw [if_pos c43] at H
                 have c43b0 : decide (x16_5 < (l0.length : Int)) = true := decide_eq_true c43
                 clear c43
                 by_cases c44 : 0 ≤ x16_5
                 ·rw [if_pos c44] at H
                  have c44b0 : decide (0 ≤ x16_5) = true := decide_eq_true c44
                  clear c44
                  replace H := ob H
                  obtain ⟨⟨t154, t155⟩, A450, H⟩ := H
                  replace H : ((spec_l24Cell.f x13_4 x12_2 a1_0 a1_1 a1_2).bind fun bt156 => (if (t154 == bt156.1 && (t155 == bt156.2)) = true then (spec_PatchOf.l2 k5 l0 a2 a3 x10_4 x11_4 x12_2 x13_4 (wrap64 (x16_5 + 1)) a1_0 a1_1 a1_2 x13_4 x12_2 (wrap64 (x13_4 - ((rd_T43 l0 x16_5).f0))) (wrap64 (x12_2 - ((rd_T43 l0 x16_5).f1)))) else (spec_PatchOf.l2 k5 l0 a2 a3 x10_4 x11_4 x12_2 x13_4 (wrap64 (x16_5 + 1)) a1_0 a1_1 a1_2 x13_4 x12_2 x153000_5 x153001_5))) = some (r1, r2) := H
                  have A45 := am A450
                  clear A450
                  replace H := ob H
                  obtain ⟨⟨t156, t157⟩, A460, H⟩ := H
                  replace H : (if (t154 == t156 && (t155 == t157)) = true then (spec_PatchOf.l2 k5 l0 a2 a3 x10_4 x11_4 x12_2 x13_4 (wrap64 (x16_5 + 1)) a1_0 a1_1 a1_2 x13_4 x12_2 (wrap64 (x13_4 - ((rd_T43 l0 x16_5).f0))) (wrap64 (x12_2 - ((rd_T43 l0 x16_5).f1)))) else (spec_PatchOf.l2 k5 l0 a2 a3 x10_4 x11_4 x12_2 x13_4 (wrap64 (x16_5 + 1)) a1_0 a1_1 a1_2 x13_4 x12_2 x153000_5 x153001_5)) = some (r1, r2) := H
                  have A46 := am A460
                  clear A460
                  by_cases c47 : (t154 == t156 && (t155 == t157)) = true
                  ·rw [if_pos c47] at H
                   have c47b0 : (t154 == t156 && (t155 == t157)) = true := c47
                   (try (have c47b1 : decide (t154 = t156 && (t155 == t157)) = true := by simpa using c47))
                   (try (have c47b2 : (t154 == t156 && (t155 == t157)) = true := by simpa using c47))
                   clear c47
                   have H' := am H
                   clear H
                   try go_wp2
                   have n0_ := am (Kd.R_drew HO_10.out)
                   have n1_ := am (Kd.R_drew HO_11.out)
                   have n2_ := am (Bk3 BK136.out)
                   have n3_ := am (Bk3 BK151.out)
                   have n4_ := am (Bk3 BK152.out)
                   have n5_ := am (Bb3 HB.out)
                   clear HO_10
                   clear HO_11
                   clear BK136
                   clear BK151
                   clear BK152
                   clear HB
                   have HO_10 := n0_
                   have HO_11 := n1_
                   have BK136 := n2_
                   have BK151 := n3_
                   have BK152 := n4_
                   have HB := n5_
                   clear n0_ n1_ n2_ n3_ n4_ n5_
                   have p153 : 0 ≤ (x16_5 : Int) := of_decide_eq_true (by first | (with_reducible assumption) | assumption)
                   have q153 : x16_5 < (l0.length : Int) := of_decide_eq_true (by first | (with_reducible assumption) | assumption)
                   obtain ⟨ad153, e153, hx153_0, hx153_1⟩ := at_T43 HR0.out x16_5 p153 q153
                   have hw153_1 := hx153_1
                   have hw153_0 := hx153_0
                   cases e153
                   replace hx153_0 := pc HB.out hx153_0
                   replace hx153_1 := pc HB.out hx153_1
                   replace p153 := eq_true p153
                   replace q153 := eq_true q153
                   refine start_ (n := 10) (S := fun w' => w'.cell? ⟨gb136, 0, none⟩ = some (.int .i64 a1_0) ∧ w'.cell? ⟨gb136, 1, none⟩ = some (.int .i64 a1_1) ∧ w'.cell? ⟨gb136, 2, none⟩ = some (.int .i64 a1_2) ∧ w'.cell? ⟨gb151, 0, none⟩ = some (.int .i64 x13_4) ∧ w'.cell? ⟨gb151, 1, none⟩ = some (.int .i64 x12_2) ∧ w'.cell? (ad153.add ((x16_5).toNat * 2)) = some (.int .i64 ((rd_T43 l0 x16_5).f0)) ∧ w'.cell? ⟨(ad153.add ((x16_5).toNat * 2)).block, (ad153.add ((x16_5).toNat * 2)).off + 1, none⟩ = some (.int .i64 ((rd_T43 l0 x16_5).f1))) (ds := []) spec_PatchOf.m0 (by kernel_rfl) rfl rfl ⟨(kc BK136.out 0).trans rfl, (kc BK136.out 1).trans rfl, (kc BK136.out 2).trans rfl, (kc BK151.out 0).trans rfl, (kc BK151.out 1).trans rfl, (pc HB.out hw153_0), (pc HB.out hw153_1)⟩ (fun hHeld => ?_); refine with_tabW spec_PatchOf.tab22 spec_PatchOf.bits22 (fun HT_ HW_ => ?_)
                   generalize wr.drew = w48 at HO_10 HO_11 BK136 BK151 BK152 HB hx153_0 hx153_1 hHeld ⊢
                   refine pure_ (i := 0) (N := some 67) (v := ?_) (a' := ?_) spec_PatchOf.m1 rfl rfl (any_of HT_.out (by kernel_rfl)) (fun _ _ _ h => h) (Or.inl ⟨by rfl, ?_⟩) ?_ ?_
                   rotate_left
                   ·intro w'
                    go_simp
                    with_reducible rfl
                   rotate_left
                   ·simp only [Act.put, sa, i64_w, i32_w]
                    rfl
                   refine pure_ (i := 1) (N := some 68) (v := ?_) (a' := ?_) spec_PatchOf.m2 rfl rfl (any_of HT_.out (by kernel_rfl)) (fun _ _ _ h => h) (Or.inl ⟨by rfl, ?_⟩) ?_ ?_
                   rotate_left
                   ·intro w'
                    go_simp
                    with_reducible rfl
                   rotate_left
                   ·simp only [Act.put, sa, i64_w, i32_w]
                    rfl
                   refine pure_ (i := 2) (N := some 69) (v := ?_) (a' := ?_) spec_PatchOf.m3 rfl rfl (any_of HT_.out (by kernel_rfl)) (fun _ _ _ h => h) (Or.inl ⟨by rfl, ?_⟩) ?_ ?_
                   rotate_left
                   ·intro w'
                    go_simp
                    with_reducible rfl
                   rotate_left
                   ·simp only [Act.put, sa, i64_w, i32_w]
                    rfl
                   refine take_ (i := 3) (N := some 70) (v := ?_) (a' := ?_) spec_PatchOf.m4 rfl rfl (take_ofW HT_.out HW_.out (by kernel_rfl)) (fun _ _ _ h => h) (Or.inl ⟨by rfl, ?_⟩) hHeld ?_ ?_
                   rotate_left
                   ·rintro w' ⟨s0, s1, s2, s3, s4, s5, s6⟩
                    go_simp
                    with_reducible rfl
                   rotate_left
                   ·simp only [Act.put, sa, i64_w, i32_w]
                    rfl
                   refine take_ (i := 4) (N := some 71) (v := ?_) (a' := ?_) spec_PatchOf.m5 rfl rfl (take_ofW HT_.out HW_.out (by kernel_rfl)) (fun _ _ _ h => h) (Or.inl ⟨by rfl, ?_⟩) hHeld ?_ ?_
                   rotate_left
                   ·rintro w' ⟨s0, s1, s2, s3, s4, s5, s6⟩
                    go_simp
                    with_reducible rfl
                   rotate_left
                   ·simp only [Act.put, sa, i64_w, i32_w]
                    rfl
                   refine take_ (i := 6) (N := some 73) (v := ?_) (a' := ?_) spec_PatchOf.m6 rfl rfl (take_ofW HT_.out HW_.out (by kernel_rfl)) (fun _ _ _ h => h) (Or.inl ⟨by rfl, ?_⟩) hHeld ?_ ?_
                   rotate_left
                   ·rintro w' ⟨s0, s1, s2, s3, s4, s5, s6⟩
                    go_simp
                    with_reducible rfl
                   rotate_left
                   ·simp only [Act.put, sa, i64_w, i32_w]
                    rfl
                   refine take_ (i := 7) (N := some 74) (v := ?_) (a' := ?_) spec_PatchOf.m7 rfl rfl (take_ofW HT_.out HW_.out (by kernel_rfl)) (fun _ _ _ h => h) (Or.inl ⟨by rfl, ?_⟩) hHeld ?_ ?_
                   rotate_left
                   ·rintro w' ⟨s0, s1, s2, s3, s4, s5, s6⟩
                    go_simp
                    with_reducible rfl
                   rotate_left
                   ·simp only [Act.put, sa, i64_w, i32_w]
                    rfl
                   refine one_ (i := 5) (N := some 72) spec_PatchOf.m8 rfl rfl (one_of HT_.out (by kernel_rfl)) (by decide) (fun K hK => ?_)
                   refine goes_ Try.func17 (by kernel_rfl) rfl #[.agg #[.int .i64 ((rd_T43 l0 x16_5).f0), .int .i64 ((rd_T43 l0 x16_5).f1)], .agg #[.int .i64 a1_0, .int .i64 a1_1, .int .i64 a1_2]] (by rfl) rfl rfl (by (try simp only [List.map_toArray, List.map_cons, List.map_nil]); first | done | rfl | (simp only [List.length_drop, List.length_take]; rfl)) ?_
                   with_reducible refine (spec_l24Cell.calls ((rd_T43 l0 x16_5).f0) ((rd_T43 l0 x16_5).f1) a1_0 a1_1 a1_2 t154 t155 _ A45.out).mono ?_
                   rintro e w49 ⟨rfl, hb⟩
                   refine ⟨_, rfl, ?_⟩
                   have n0_ := am (Kd.R_below (by (with_reducible repeat (first | apply Kd.R_alloc | apply Kd.R_drewN | apply Kd.R_drew)); exact HO_10.out) hb)
                   have n1_ := am (Kd.R_below (by (with_reducible repeat (first | apply Kd.R_alloc | apply Kd.R_drewN | apply Kd.R_drew)); exact HO_11.out) hb)
                   have n2_ := am (Bk4 (g := gb136) (o := .cells #[.int .i64 a1_0, .int .i64 a1_1, .int .i64 a1_2] 30 (0, 0)) (by (with_reducible repeat (first | refine Bk2 ?_ _ | refine Bk3 ?_ | refine Bk1 ?_ _)); exact BK136.out) hb)
                   have n3_ := am (Bk4 (g := gb151) (o := .cells #[.int .i64 x13_4, .int .i64 x12_2] 43 (0, 0)) (by (with_reducible repeat (first | refine Bk2 ?_ _ | refine Bk3 ?_ | refine Bk1 ?_ _)); exact BK151.out) hb)
                   have n4_ := am (Bk4 (g := gb152) (o := .cells #[.int .i64 x153000_5, .int .i64 x153001_5] 43 (0, 0)) (by (with_reducible repeat (first | refine Bk2 ?_ _ | refine Bk3 ?_ | refine Bk1 ?_ _)); exact BK152.out) hb)
                   have n5_ := am (Bb6 (by repeat (first | (with_reducible first | exact HB.out | apply Bb1 | apply Bb2 | apply Bb3 | refine Bb4 ?_ GE136.out | refine Bb4 ?_ GE151.out | refine Bb4 ?_ GE152.out) | exact HB.out)) hb)
                   clear HO_10
                   clear HO_11
                   clear BK136
                   clear BK151
                   clear BK152
                   clear HB
                   have HO_10 := n0_
                   have HO_11 := n1_
                   have BK136 := n2_
                   have BK151 := n3_
                   have BK152 := n4_
                   have HB := n5_
                   clear n0_ n1_ n2_ n3_ n4_ n5_
                   (try clear hb)
                   (try clear hb2)
                   (try clear hk)
                   (try clear hi)
                   refine hK.out _ _ ⟨(kc BK136.out 0).trans rfl, (kc BK136.out 1).trans rfl, (kc BK136.out 2).trans rfl, (kc BK151.out 0).trans rfl, (kc BK151.out 1).trans rfl, (pc HB.out hw153_0), (pc HB.out hw153_1)⟩ (fun hHeld => ?_)
                   clear hK K
                   refine norm_ (a' := ?_) ?_ ?_
                   rotate_left
                   ·show Act.put _ (some 72) _ = _
                    simp only [Act.put, sa, i64_w, i32_w]
                    rfl
                   refine one_ (i := 8) (N := some 75) spec_PatchOf.m9 rfl rfl (one_of HT_.out (by kernel_rfl)) (by decide) (fun K hK => ?_)
                   refine goes_ Try.func17 (by kernel_rfl) rfl #[.agg #[.int .i64 x13_4, .int .i64 x12_2], .agg #[.int .i64 a1_0, .int .i64 a1_1, .int .i64 a1_2]] (by rfl) rfl rfl (by (try simp only [List.map_toArray, List.map_cons, List.map_nil]); first | done | rfl | (simp only [List.length_drop, List.length_take]; rfl)) ?_
                   with_reducible refine (spec_l24Cell.calls x13_4 x12_2 a1_0 a1_1 a1_2 t156 t157 _ A46.out).mono ?_
                   rintro e w50 ⟨rfl, hb⟩
                   refine ⟨_, rfl, ?_⟩
                   have n0_ := am (Kd.R_below (by (with_reducible repeat (first | apply Kd.R_alloc | apply Kd.R_drewN | apply Kd.R_drew)); exact HO_10.out) hb)
                   have n1_ := am (Kd.R_below (by (with_reducible repeat (first | apply Kd.R_alloc | apply Kd.R_drewN | apply Kd.R_drew)); exact HO_11.out) hb)
                   have n2_ := am (Bk4 (g := gb136) (o := .cells #[.int .i64 a1_0, .int .i64 a1_1, .int .i64 a1_2] 30 (0, 0)) (by (with_reducible repeat (first | refine Bk2 ?_ _ | refine Bk3 ?_ | refine Bk1 ?_ _)); exact BK136.out) hb)
                   have n3_ := am (Bk4 (g := gb151) (o := .cells #[.int .i64 x13_4, .int .i64 x12_2] 43 (0, 0)) (by (with_reducible repeat (first | refine Bk2 ?_ _ | refine Bk3 ?_ | refine Bk1 ?_ _)); exact BK151.out) hb)
                   have n4_ := am (Bk4 (g := gb152) (o := .cells #[.int .i64 x153000_5, .int .i64 x153001_5] 43 (0, 0)) (by (with_reducible repeat (first | refine Bk2 ?_ _ | refine Bk3 ?_ | refine Bk1 ?_ _)); exact BK152.out) hb)
                   have n5_ := am (Bb6 (by repeat (first | (with_reducible first | exact HB.out | apply Bb1 | apply Bb2 | apply Bb3 | refine Bb4 ?_ GE136.out | refine Bb4 ?_ GE151.out | refine Bb4 ?_ GE152.out) | exact HB.out)) hb)
                   clear HO_10
                   clear HO_11
                   clear BK136
                   clear BK151
                   clear BK152
                   clear HB
                   have HO_10 := n0_
                   have HO_11 := n1_
                   have BK136 := n2_
                   have BK151 := n3_
                   have BK152 := n4_
                   have HB := n5_
                   clear n0_ n1_ n2_ n3_ n4_ n5_
                   (try clear hb)
                   (try clear hb2)
                   (try clear hk)
                   (try clear hi)
                   refine hK.out _ _ ⟨(kc BK136.out 0).trans rfl, (kc BK136.out 1).trans rfl, (kc BK136.out 2).trans rfl, (kc BK151.out 0).trans rfl, (kc BK151.out 1).trans rfl, (pc HB.out hw153_0), (pc HB.out hw153_1)⟩ (fun hHeld => ?_)
                   clear hK K
                   refine norm_ (a' := ?_) ?_ ?_
                   rotate_left
                   ·show Act.put _ (some 75) _ = _
                    simp only [Act.put, sa, i64_w, i32_w]
                    rfl
                   refine pure_ (i := 9) (N := some 76) (v := ?_) (a' := ?_) spec_PatchOf.m10 rfl rfl (any_of HT_.out (by kernel_rfl)) (fun _ _ _ h => h) (Or.inl ⟨by rfl, ?_⟩) ?_ ?_
                   rotate_left
                   ·intro w'
                    go_simp
                    with_reducible rfl
                   rotate_left
                   ·simp only [Act.put, sa, i64_w, i32_w]
                    rfl
                   refine done_ (done_of HT_.out (by kernel_rfl)) ?_
                   try go_wp2
                   have n0_ := am (Kd.R_drew HO_10.out)
                   have n1_ := am (Kd.R_drew HO_11.out)
                   have n2_ := am (Bk3 BK136.out)
                   have n3_ := am (Bk3 BK151.out)
                   have n4_ := am (Bk3 BK152.out)
                   have n5_ := am (Bb3 HB.out)
                   clear HO_10
                   clear HO_11
                   clear BK136
                   clear BK151
                   clear BK152
                   clear HB
                   have HO_10 := n0_
                   have HO_11 := n1_
                   have BK136 := n2_
                   have BK151 := n3_
                   have BK152 := n4_
                   have HB := n5_
                   clear n0_ n1_ n2_ n3_ n4_ n5_
                   have p158 : 0 ≤ (x16_5 : Int) := of_decide_eq_true (by first | (with_reducible assumption) | assumption)
                   have q158 : x16_5 < (l0.length : Int) := of_decide_eq_true (by first | (with_reducible assumption) | assumption)
                   obtain ⟨ad158, e158, hx158_0, hx158_1⟩ := at_T43 HR0.out x16_5 p158 q158
                   have hw158_1 := hx158_1
                   have hw158_0 := hx158_0
                   obtain rfl : ad153 = ad158 := (by injection e158)
                   replace hx158_0 := pc HB.out hx158_0
                   replace hx158_1 := pc HB.out hx158_1
                   replace p158 := eq_true p158
                   replace q158 := eq_true q158
                   have p159 : 0 ≤ (x16_5 : Int) := of_decide_eq_true (by first | (with_reducible assumption) | assumption)
                   have q159 : x16_5 < (l0.length : Int) := of_decide_eq_true (by first | (with_reducible assumption) | assumption)
                   obtain ⟨ad159, e159, hx159_0, hx159_1⟩ := at_T43 HR0.out x16_5 p159 q159
                   have hw159_1 := hx159_1
                   have hw159_0 := hx159_0
                   obtain rfl : ad153 = ad159 := (by injection e159)
                   replace hx159_0 := pc HB.out hx159_0
                   replace hx159_1 := pc HB.out hx159_1
                   replace p159 := eq_true p159
                   replace q159 := eq_true q159
                   refine start_ (n := 16) (S := fun w' => w'.cell? (ad153.add ((x16_5).toNat * 2)) = some (.int .i64 ((rd_T43 l0 x16_5).f0)) ∧ w'.cell? ⟨(ad153.add ((x16_5).toNat * 2)).block, (ad153.add ((x16_5).toNat * 2)).off + 1, none⟩ = some (.int .i64 ((rd_T43 l0 x16_5).f1)) ∧ w'.cell? (ad153.add ((x16_5).toNat * 2)) = some (.int .i64 ((rd_T43 l0 x16_5).f0)) ∧ w'.cell? ⟨(ad153.add ((x16_5).toNat * 2)).block, (ad153.add ((x16_5).toNat * 2)).off + 1, none⟩ = some (.int .i64 ((rd_T43 l0 x16_5).f1))) (ds := []) #[false, false, false, false, false, false, false, false, false, false, false, false, false, false, false, false] (by kernel_rfl) rfl rfl ⟨(pc HB.out hw158_0), (pc HB.out hw158_1), (pc HB.out hw159_0), (pc HB.out hw159_1)⟩ (fun hHeld => ?_); refine with_tabW spec_PatchOf.tab23 spec_PatchOf.bits23 (fun HT_ HW_ => ?_)
                   generalize w50.drew = w51 at HO_10 HO_11 BK136 BK151 BK152 HB hx158_0 hx158_1 hx159_0 hx159_1 hHeld ⊢
                   refine pure_ (i := 0) (N := some 77) (v := ?_) (a' := ?_) #[true, false, false, false, false, false, false, false, false, false, false, false, false, false, false, false] rfl rfl (any_of HT_.out (by kernel_rfl)) (fun _ _ _ h => h) (Or.inl ⟨by rfl, ?_⟩) ?_ ?_
                   rotate_left
                   ·intro w'
                    go_simp
                    with_reducible rfl
                   rotate_left
                   ·simp only [Act.put, sa, i64_w, i32_w]
                    rfl
                   refine pure_ (i := 1) (N := some 78) (v := ?_) (a' := ?_) #[true, true, false, false, false, false, false, false, false, false, false, false, false, false, false, false] rfl rfl (any_of HT_.out (by kernel_rfl)) (fun _ _ _ h => h) (Or.inl ⟨by rfl, ?_⟩) ?_ ?_
                   rotate_left
                   ·intro w'
                    go_simp
                    with_reducible rfl
                   rotate_left
                   ·simp only [Act.put, sa, i64_w, i32_w]
                    rfl
                   refine pure_ (i := 2) (N := some 79) (v := ?_) (a' := ?_) #[true, true, true, false, false, false, false, false, false, false, false, false, false, false, false, false] rfl rfl (any_of HT_.out (by kernel_rfl)) (fun _ _ _ h => h) (Or.inl ⟨by rfl, ?_⟩) ?_ ?_
                   rotate_left
                   ·intro w'
                    go_simp
                    with_reducible rfl
                   rotate_left
                   ·simp only [Act.put, sa, i64_w, i32_w]
                    rfl
                   refine pure_ (i := 3) (N := some 80) (v := ?_) (a' := ?_) #[true, true, true, true, false, false, false, false, false, false, false, false, false, false, false, false] rfl rfl (any_of HT_.out (by kernel_rfl)) (fun _ _ _ h => h) (Or.inl ⟨by rfl, ?_⟩) ?_ ?_
                   rotate_left
                   ·intro w'
                    go_simp
                    with_reducible rfl
                   rotate_left
                   ·simp only [Act.put, sa, i64_w, i32_w]
                    rfl
                   refine pure_ (i := 4) (N := some 81) (v := ?_) (a' := ?_) #[true, true, true, true, true, false, false, false, false, false, false, false, false, false, false, false] rfl rfl (any_of HT_.out (by kernel_rfl)) (fun _ _ _ h => h) (Or.inl ⟨by rfl, ?_⟩) ?_ ?_
                   rotate_left
                   ·intro w'
                    go_simp
                    with_reducible rfl
                   rotate_left
                   ·simp only [Act.put, sa, i64_w, i32_w]
                    rfl
                   refine pure_ (i := 7) (N := some 84) (v := ?_) (a' := ?_) #[true, true, true, true, true, false, false, true, false, false, false, false, false, false, false, false] rfl rfl (any_of HT_.out (by kernel_rfl)) (fun _ _ _ h => h) (Or.inl ⟨by rfl, ?_⟩) ?_ ?_
                   rotate_left
                   ·intro w'
                    go_simp
                    with_reducible rfl
                   rotate_left
                   ·simp only [Act.put, sa, i64_w, i32_w]
                    rfl
                   refine pure_ (i := 8) (N := some 85) (v := ?_) (a' := ?_) #[true, true, true, true, true, false, false, true, true, false, false, false, false, false, false, false] rfl rfl (any_of HT_.out (by kernel_rfl)) (fun _ _ _ h => h) (Or.inl ⟨by rfl, ?_⟩) ?_ ?_
                   rotate_left
                   ·intro w'
                    go_simp
                    with_reducible rfl
                   rotate_left
                   ·simp only [Act.put, sa, i64_w, i32_w]
                    rfl
                   refine pure_ (i := 9) (N := some 86) (v := ?_) (a' := ?_) #[true, true, true, true, true, false, false, true, true, true, false, false, false, false, false, false] rfl rfl (any_of HT_.out (by kernel_rfl)) (fun _ _ _ h => h) (Or.inl ⟨by rfl, ?_⟩) ?_ ?_
                   rotate_left
                   ·intro w'
                    go_simp
                    with_reducible rfl
                   rotate_left
                   ·simp only [Act.put, sa, i64_w, i32_w]
                    rfl
                   refine pure_ (i := 10) (N := some 87) (v := ?_) (a' := ?_) #[true, true, true, true, true, false, false, true, true, true, true, false, false, false, false, false] rfl rfl (any_of HT_.out (by kernel_rfl)) (fun _ _ _ h => h) (Or.inl ⟨by rfl, ?_⟩) ?_ ?_
                   rotate_left
                   ·intro w'
                    go_simp
                    with_reducible rfl
                   rotate_left
                   ·simp only [Act.put, sa, i64_w, i32_w]
                    rfl
                   refine pure_ (i := 11) (N := some 88) (v := ?_) (a' := ?_) #[true, true, true, true, true, false, false, true, true, true, true, true, false, false, false, false] rfl rfl (any_of HT_.out (by kernel_rfl)) (fun _ _ _ h => h) (Or.inl ⟨by rfl, ?_⟩) ?_ ?_
                   rotate_left
                   ·intro w'
                    go_simp
                    with_reducible rfl
                   rotate_left
                   ·simp only [Act.put, sa, i64_w, i32_w]
                    rfl
                   refine take_ (i := 5) (N := some 82) (v := ?_) (a' := ?_) #[true, true, true, true, true, true, false, true, true, true, true, true, false, false, false, false] rfl rfl (take_ofW HT_.out HW_.out (by kernel_rfl)) (fun _ _ _ h => h) (Or.inl ⟨by rfl, ?_⟩) hHeld ?_ ?_
                   rotate_left
                   ·rintro w' ⟨s0, s1, s2, s3⟩
                    go_simp
                    with_reducible rfl
                   rotate_left
                   ·simp only [Act.put, sa, i64_w, i32_w]
                    rfl
                   refine pure_ (i := 6) (N := some 83) (v := ?_) (a' := ?_) #[true, true, true, true, true, true, true, true, true, true, true, true, false, false, false, false] rfl rfl (any_of HT_.out (by kernel_rfl)) (fun _ _ _ h => h) (Or.inl ⟨by rfl, ?_⟩) ?_ ?_
                   rotate_left
                   ·intro w'
                    go_simp
                    with_reducible rfl
                   rotate_left
                   ·simp only [Act.put, sa, i64_w, i32_w]
                    rfl
                   refine take_ (i := 12) (N := some 89) (v := ?_) (a' := ?_) #[true, true, true, true, true, true, true, true, true, true, true, true, true, false, false, false] rfl rfl (take_ofW HT_.out HW_.out (by kernel_rfl)) (fun _ _ _ h => h) (Or.inl ⟨by rfl, ?_⟩) hHeld ?_ ?_
                   rotate_left
                   ·rintro w' ⟨s0, s1, s2, s3⟩
                    go_simp
                    with_reducible rfl
                   rotate_left
                   ·simp only [Act.put, sa, i64_w, i32_w]
                    rfl
                   refine pure_ (i := 13) (N := some 90) (v := ?_) (a' := ?_) #[true, true, true, true, true, true, true, true, true, true, true, true, true, true, false, false] rfl rfl (any_of HT_.out (by kernel_rfl)) (fun _ _ _ h => h) (Or.inl ⟨by rfl, ?_⟩) ?_ ?_
                   rotate_left
                   ·intro w'
                    go_simp
                    with_reducible rfl
                   rotate_left
                   ·simp only [Act.put, sa, i64_w, i32_w]
                    rfl
                   refine pure_ (i := 14) (N := some 91) (v := ?_) (a' := ?_) #[true, true, true, true, true, true, true, true, true, true, true, true, true, true, true, false] rfl rfl (any_of HT_.out (by kernel_rfl)) (fun _ _ _ h => h) (Or.inl ⟨by rfl, ?_⟩) ?_ ?_
                   rotate_left
                   ·intro w'
                    go_simp
                    with_reducible rfl
                   rotate_left
                   ·simp only [Act.put, sa, i64_w, i32_w]
                    rfl
                   refine one_ (i := 15) (N := none) #[true, true, true, true, true, true, true, true, true, true, true, true, true, true, true, true] rfl rfl (one_of HT_.out (by kernel_rfl)) (by decide) (fun K hK => ?_)
                   have hs52 : w51.cell? ⟨gb152, 0, none⟩ = some (.int .i64 x153000_5) := (kc BK152.out 0).trans rfl
                   have hfs52 := kf BK152.out 0
                   have hns52_0 := NB136_152.out
                   have hns52_1 := NB151_152.out
                   have hms52_0 := NB152_136.out
                   have hms52_1 := NB152_151.out
                   have hs53 : w51.cell? ⟨gb152, 1, none⟩ = some (.int .i64 x153001_5) := (kc BK152.out 1).trans rfl
                   have hfs53 := kf BK152.out 1
                   have hns53_0 := NB136_152.out
                   have hns53_1 := NB151_152.out
                   have hms53_0 := NB152_136.out
                   have hms53_1 := NB152_151.out
                   refine skip_ (w1 := ?_) (by rfl) rfl ?_ ?_
                   rotate_left
                   ·go_simp
                    rfl
                   refine hK.out _ _ ⟨((cell_far (p := ⟨gb152, _, none⟩) (by first | exact nl (Nat.lt_of_lt_of_le (by have := World.block_lt_of_cell? _ _ hw158_0; first | rwa [add_block] at this | exact this) GW152.out) | (rw [add_block]; exact nl (Nat.lt_of_lt_of_le (by have := World.block_lt_of_cell? _ _ hw158_0; first | rwa [add_block] at this | exact this) GW152.out)) | (show (Addr.add _ _).block ≠ _; rw [add_block]; exact nl (Nat.lt_of_lt_of_le (by have := World.block_lt_of_cell? _ _ hw158_0; first | rwa [add_block] at this | exact this) GW152.out)) | (dsimp only; exact nl (Nat.lt_of_lt_of_le (by have := World.block_lt_of_cell? _ _ hw158_0; first | rwa [add_block] at this | exact this) GW152.out))) _).trans (((cell_far (p := ⟨gb152, _, none⟩) (by first | exact nl (Nat.lt_of_lt_of_le (by have := World.block_lt_of_cell? _ _ hw158_0; first | rwa [add_block] at this | exact this) GW152.out) | (rw [add_block]; exact nl (Nat.lt_of_lt_of_le (by have := World.block_lt_of_cell? _ _ hw158_0; first | rwa [add_block] at this | exact this) GW152.out)) | (show (Addr.add _ _).block ≠ _; rw [add_block]; exact nl (Nat.lt_of_lt_of_le (by have := World.block_lt_of_cell? _ _ hw158_0; first | rwa [add_block] at this | exact this) GW152.out)) | (dsimp only; exact nl (Nat.lt_of_lt_of_le (by have := World.block_lt_of_cell? _ _ hw158_0; first | rwa [add_block] at this | exact this) GW152.out))) _).trans (hHeld.1)))), ((cell_far (p := ⟨gb152, _, none⟩) (by first | exact nl (Nat.lt_of_lt_of_le (by have := World.block_lt_of_cell? _ _ hw158_1; first | rwa [add_block] at this | exact this) GW152.out) | (rw [add_block]; exact nl (Nat.lt_of_lt_of_le (by have := World.block_lt_of_cell? _ _ hw158_1; first | rwa [add_block] at this | exact this) GW152.out)) | (show (Addr.add _ _).block ≠ _; rw [add_block]; exact nl (Nat.lt_of_lt_of_le (by have := World.block_lt_of_cell? _ _ hw158_1; first | rwa [add_block] at this | exact this) GW152.out)) | (dsimp only; exact nl (Nat.lt_of_lt_of_le (by have := World.block_lt_of_cell? _ _ hw158_1; first | rwa [add_block] at this | exact this) GW152.out))) _).trans (((cell_far (p := ⟨gb152, _, none⟩) (by first | exact nl (Nat.lt_of_lt_of_le (by have := World.block_lt_of_cell? _ _ hw158_1; first | rwa [add_block] at this | exact this) GW152.out) | (rw [add_block]; exact nl (Nat.lt_of_lt_of_le (by have := World.block_lt_of_cell? _ _ hw158_1; first | rwa [add_block] at this | exact this) GW152.out)) | (show (Addr.add _ _).block ≠ _; rw [add_block]; exact nl (Nat.lt_of_lt_of_le (by have := World.block_lt_of_cell? _ _ hw158_1; first | rwa [add_block] at this | exact this) GW152.out)) | (dsimp only; exact nl (Nat.lt_of_lt_of_le (by have := World.block_lt_of_cell? _ _ hw158_1; first | rwa [add_block] at this | exact this) GW152.out))) _).trans (hHeld.2.1)))), ((cell_far (p := ⟨gb152, _, none⟩) (by first | exact nl (Nat.lt_of_lt_of_le (by have := World.block_lt_of_cell? _ _ hw159_0; first | rwa [add_block] at this | exact this) GW152.out) | (rw [add_block]; exact nl (Nat.lt_of_lt_of_le (by have := World.block_lt_of_cell? _ _ hw159_0; first | rwa [add_block] at this | exact this) GW152.out)) | (show (Addr.add _ _).block ≠ _; rw [add_block]; exact nl (Nat.lt_of_lt_of_le (by have := World.block_lt_of_cell? _ _ hw159_0; first | rwa [add_block] at this | exact this) GW152.out)) | (dsimp only; exact nl (Nat.lt_of_lt_of_le (by have := World.block_lt_of_cell? _ _ hw159_0; first | rwa [add_block] at this | exact this) GW152.out))) _).trans (((cell_far (p := ⟨gb152, _, none⟩) (by first | exact nl (Nat.lt_of_lt_of_le (by have := World.block_lt_of_cell? _ _ hw159_0; first | rwa [add_block] at this | exact this) GW152.out) | (rw [add_block]; exact nl (Nat.lt_of_lt_of_le (by have := World.block_lt_of_cell? _ _ hw159_0; first | rwa [add_block] at this | exact this) GW152.out)) | (show (Addr.add _ _).block ≠ _; rw [add_block]; exact nl (Nat.lt_of_lt_of_le (by have := World.block_lt_of_cell? _ _ hw159_0; first | rwa [add_block] at this | exact this) GW152.out)) | (dsimp only; exact nl (Nat.lt_of_lt_of_le (by have := World.block_lt_of_cell? _ _ hw159_0; first | rwa [add_block] at this | exact this) GW152.out))) _).trans (hHeld.2.2.1)))), ((cell_far (p := ⟨gb152, _, none⟩) (by first | exact nl (Nat.lt_of_lt_of_le (by have := World.block_lt_of_cell? _ _ hw159_1; first | rwa [add_block] at this | exact this) GW152.out) | (rw [add_block]; exact nl (Nat.lt_of_lt_of_le (by have := World.block_lt_of_cell? _ _ hw159_1; first | rwa [add_block] at this | exact this) GW152.out)) | (show (Addr.add _ _).block ≠ _; rw [add_block]; exact nl (Nat.lt_of_lt_of_le (by have := World.block_lt_of_cell? _ _ hw159_1; first | rwa [add_block] at this | exact this) GW152.out)) | (dsimp only; exact nl (Nat.lt_of_lt_of_le (by have := World.block_lt_of_cell? _ _ hw159_1; first | rwa [add_block] at this | exact this) GW152.out))) _).trans (((cell_far (p := ⟨gb152, _, none⟩) (by first | exact nl (Nat.lt_of_lt_of_le (by have := World.block_lt_of_cell? _ _ hw159_1; first | rwa [add_block] at this | exact this) GW152.out) | (rw [add_block]; exact nl (Nat.lt_of_lt_of_le (by have := World.block_lt_of_cell? _ _ hw159_1; first | rwa [add_block] at this | exact this) GW152.out)) | (show (Addr.add _ _).block ≠ _; rw [add_block]; exact nl (Nat.lt_of_lt_of_le (by have := World.block_lt_of_cell? _ _ hw159_1; first | rwa [add_block] at this | exact this) GW152.out)) | (dsimp only; exact nl (Nat.lt_of_lt_of_le (by have := World.block_lt_of_cell? _ _ hw159_1; first | rwa [add_block] at this | exact this) GW152.out))) _).trans (hHeld.2.2.2))))⟩ (fun hHeld => ?_)
                   clear hK K
                   refine done_ (done_of HT_.out (by kernel_rfl)) ?_
                   try go_wp2
                   go_roundg k5
                   case measure => have := HJ6.out; have := HK2.out; have := HJ30.out; have := HK4.out; have := HK5.out; omega
                   case rel => exact ⟨(wrap64 (x16_5 + 1)), (wrap64 (x13_4 - ((rd_T43 l0 x16_5).f0))), (wrap64 (x12_2 - ((rd_T43 l0 x16_5).f1))), (by first | rfl | (simp; done) | (simp [*]; done)), H', ⟨by have := HJ6.out; have := HK2.out; have := HJ30.out; have := HK4.out; have := HK5.out; omega⟩, ⟨by (with_reducible repeat (first | apply Kd.R_alloc | apply Kd.R_drewN | apply Kd.R_drew)); exact Kd.R_mono (Kd.R_far (p := ⟨gb152, 1, none⟩) (Kd.R_far (p := ⟨gb152, 0, none⟩) (Kd.R_types HO_10.out BK152.out (by decide)) (fun _ hk => hk.2) (.int .i64 (wrap64 (x13_4 - ((rd_T43 l0 x16_5).f0))))) (fun _ hk => hk.2) (.int .i64 (wrap64 (x12_2 - ((rd_T43 l0 x16_5).f1))))) (fun _ hk => trivial)⟩, ⟨by (with_reducible repeat (first | apply Kd.R_alloc | apply Kd.R_drewN | apply Kd.R_drew)); exact Kd.R_mono (Kd.R_far (p := ⟨gb152, 1, none⟩) (Kd.R_far (p := ⟨gb152, 0, none⟩) (Kd.R_mono HO_11.out (fun k_ hk => (⟨hk, hk.2⟩ : _ ∧ k_ ≠ gb152))) (fun _ hk => hk.2) (.int .i64 (wrap64 (x13_4 - ((rd_T43 l0 x16_5).f0))))) (fun _ hk => hk.2) (.int .i64 (wrap64 (x12_2 - ((rd_T43 l0 x16_5).f1))))) (fun _ hk => ⟨hk.1.1, hk.1.2⟩)⟩, ⟨by (with_reducible repeat (first | refine Bk2 ?_ _ | refine Bk3 ?_ | refine Bk1 ?_ _)); refine blk_far ?_ NB136_152.out _; (with_reducible repeat (first | refine Bk2 ?_ _ | refine Bk3 ?_ | refine Bk1 ?_ _)); refine blk_far ?_ NB136_152.out _; (with_reducible repeat (first | refine Bk2 ?_ _ | refine Bk3 ?_ | refine Bk1 ?_ _)); exact BK136.out⟩, ⟨by (with_reducible repeat (first | refine Bk2 ?_ _ | refine Bk3 ?_ | refine Bk1 ?_ _)); refine blk_far ?_ NB151_152.out _; (with_reducible repeat (first | refine Bk2 ?_ _ | refine Bk3 ?_ | refine Bk1 ?_ _)); refine blk_far ?_ NB151_152.out _; (with_reducible repeat (first | refine Bk2 ?_ _ | refine Bk3 ?_ | refine Bk1 ?_ _)); exact BK151.out⟩, ⟨by (with_reducible repeat (first | refine Bk2 ?_ _ | refine Bk3 ?_ | refine Bk1 ?_ _)); refine blk_put (cs := #[.int .i64 (wrap64 (x13_4 - ((rd_T43 l0 x16_5).f0))), .int .i64 x153001_5]) ?_ 1 _ rfl; (with_reducible repeat (first | refine Bk2 ?_ _ | refine Bk3 ?_ | refine Bk1 ?_ _)); refine blk_put (cs := #[.int .i64 x153000_5, .int .i64 x153001_5]) ?_ 0 _ rfl; (with_reducible repeat (first | refine Bk2 ?_ _ | refine Bk3 ?_ | refine Bk1 ?_ _)); exact BK152.out⟩, ⟨by repeat (first | (with_reducible first | exact HB.out | apply Bb1 | apply Bb2 | apply Bb3 | refine Bb4 ?_ GE136.out | refine Bb4 ?_ GE151.out | refine Bb4 ?_ GE152.out) | exact HB.out)⟩⟩
                  ·rw [if_neg c47] at H
                   have c47b0 : (t154 == t156 && (t155 == t157)) = false := by simpa using c47
                   (try (have c47b1 : decide (t154 = t156 && (t155 == t157)) = false := by simpa using c47))
                   (try (have c47b2 : (t154 == t156 && (t155 == t157)) = false := by simpa using c47))
                   (try (have c47b3 : ¬ (t154 = t156 && (t155 == t157)) := by simpa using c47))
                   clear c47
                   have H' := am H
                   clear H
                   try go_wp2
                   have n0_ := am (Kd.R_drew HO_10.out)
                   have n1_ := am (Kd.R_drew HO_11.out)
                   have n2_ := am (Bk3 BK136.out)
                   have n3_ := am (Bk3 BK151.out)
                   have n4_ := am (Bk3 BK152.out)
                   have n5_ := am (Bb3 HB.out)
                   clear HO_10
                   clear HO_11
                   clear BK136
                   clear BK151
                   clear BK152
                   clear HB
                   have HO_10 := n0_
                   have HO_11 := n1_
                   have BK136 := n2_
                   have BK151 := n3_
                   have BK152 := n4_
                   have HB := n5_
                   clear n0_ n1_ n2_ n3_ n4_ n5_
                   have p153 : 0 ≤ (x16_5 : Int) := of_decide_eq_true (by first | (with_reducible assumption) | assumption)
                   have q153 : x16_5 < (l0.length : Int) := of_decide_eq_true (by first | (with_reducible assumption) | assumption)
                   obtain ⟨ad153, e153, hx153_0, hx153_1⟩ := at_T43 HR0.out x16_5 p153 q153
                   have hw153_1 := hx153_1
                   have hw153_0 := hx153_0
                   cases e153
                   replace hx153_0 := pc HB.out hx153_0
                   replace hx153_1 := pc HB.out hx153_1
                   replace p153 := eq_true p153
                   replace q153 := eq_true q153
                   refine start_ (n := 10) (S := fun w' => w'.cell? ⟨gb136, 0, none⟩ = some (.int .i64 a1_0) ∧ w'.cell? ⟨gb136, 1, none⟩ = some (.int .i64 a1_1) ∧ w'.cell? ⟨gb136, 2, none⟩ = some (.int .i64 a1_2) ∧ w'.cell? ⟨gb151, 0, none⟩ = some (.int .i64 x13_4) ∧ w'.cell? ⟨gb151, 1, none⟩ = some (.int .i64 x12_2) ∧ w'.cell? (ad153.add ((x16_5).toNat * 2)) = some (.int .i64 ((rd_T43 l0 x16_5).f0)) ∧ w'.cell? ⟨(ad153.add ((x16_5).toNat * 2)).block, (ad153.add ((x16_5).toNat * 2)).off + 1, none⟩ = some (.int .i64 ((rd_T43 l0 x16_5).f1))) (ds := []) spec_PatchOf.m0 (by kernel_rfl) rfl rfl ⟨(kc BK136.out 0).trans rfl, (kc BK136.out 1).trans rfl, (kc BK136.out 2).trans rfl, (kc BK151.out 0).trans rfl, (kc BK151.out 1).trans rfl, (pc HB.out hw153_0), (pc HB.out hw153_1)⟩ (fun hHeld => ?_); refine with_tabW spec_PatchOf.tab22 spec_PatchOf.bits22 (fun HT_ HW_ => ?_)
                   generalize wr.drew = w54 at HO_10 HO_11 BK136 BK151 BK152 HB hx153_0 hx153_1 hHeld ⊢
                   refine pure_ (i := 0) (N := some 67) (v := ?_) (a' := ?_) spec_PatchOf.m1 rfl rfl (any_of HT_.out (by kernel_rfl)) (fun _ _ _ h => h) (Or.inl ⟨by rfl, ?_⟩) ?_ ?_
                   rotate_left
                   ·intro w'
                    go_simp
                    with_reducible rfl
                   rotate_left
                   ·simp only [Act.put, sa, i64_w, i32_w]
                    rfl
                   refine pure_ (i := 1) (N := some 68) (v := ?_) (a' := ?_) spec_PatchOf.m2 rfl rfl (any_of HT_.out (by kernel_rfl)) (fun _ _ _ h => h) (Or.inl ⟨by rfl, ?_⟩) ?_ ?_
                   rotate_left
                   ·intro w'
                    go_simp
                    with_reducible rfl
                   rotate_left
                   ·simp only [Act.put, sa, i64_w, i32_w]
                    rfl
                   refine pure_ (i := 2) (N := some 69) (v := ?_) (a' := ?_) spec_PatchOf.m3 rfl rfl (any_of HT_.out (by kernel_rfl)) (fun _ _ _ h => h) (Or.inl ⟨by rfl, ?_⟩) ?_ ?_
                   rotate_left
                   ·intro w'
                    go_simp
                    with_reducible rfl
                   rotate_left
                   ·simp only [Act.put, sa, i64_w, i32_w]
                    rfl
                   refine take_ (i := 3) (N := some 70) (v := ?_) (a' := ?_) spec_PatchOf.m4 rfl rfl (take_ofW HT_.out HW_.out (by kernel_rfl)) (fun _ _ _ h => h) (Or.inl ⟨by rfl, ?_⟩) hHeld ?_ ?_
                   rotate_left
                   ·rintro w' ⟨s0, s1, s2, s3, s4, s5, s6⟩
                    go_simp
                    with_reducible rfl
                   rotate_left
                   ·simp only [Act.put, sa, i64_w, i32_w]
                    rfl
                   refine take_ (i := 4) (N := some 71) (v := ?_) (a' := ?_) spec_PatchOf.m5 rfl rfl (take_ofW HT_.out HW_.out (by kernel_rfl)) (fun _ _ _ h => h) (Or.inl ⟨by rfl, ?_⟩) hHeld ?_ ?_
                   rotate_left
                   ·rintro w' ⟨s0, s1, s2, s3, s4, s5, s6⟩
                    go_simp
                    with_reducible rfl
                   rotate_left
                   ·simp only [Act.put, sa, i64_w, i32_w]
                    rfl
                   refine take_ (i := 6) (N := some 73) (v := ?_) (a' := ?_) spec_PatchOf.m6 rfl rfl (take_ofW HT_.out HW_.out (by kernel_rfl)) (fun _ _ _ h => h) (Or.inl ⟨by rfl, ?_⟩) hHeld ?_ ?_
                   rotate_left
                   ·rintro w' ⟨s0, s1, s2, s3, s4, s5, s6⟩
                    go_simp
                    with_reducible rfl
                   rotate_left
                   ·simp only [Act.put, sa, i64_w, i32_w]
                    rfl
                   refine take_ (i := 7) (N := some 74) (v := ?_) (a' := ?_) spec_PatchOf.m7 rfl rfl (take_ofW HT_.out HW_.out (by kernel_rfl)) (fun _ _ _ h => h) (Or.inl ⟨by rfl, ?_⟩) hHeld ?_ ?_
                   rotate_left
                   ·rintro w' ⟨s0, s1, s2, s3, s4, s5, s6⟩
                    go_simp
                    with_reducible rfl
                   rotate_left
                   ·simp only [Act.put, sa, i64_w, i32_w]
                    rfl
                   refine one_ (i := 5) (N := some 72) spec_PatchOf.m8 rfl rfl (one_of HT_.out (by kernel_rfl)) (by decide) (fun K hK => ?_)
                   refine goes_ Try.func17 (by kernel_rfl) rfl #[.agg #[.int .i64 ((rd_T43 l0 x16_5).f0), .int .i64 ((rd_T43 l0 x16_5).f1)], .agg #[.int .i64 a1_0, .int .i64 a1_1, .int .i64 a1_2]] (by rfl) rfl rfl (by (try simp only [List.map_toArray, List.map_cons, List.map_nil]); first | done | rfl | (simp only [List.length_drop, List.length_take]; rfl)) ?_
                   with_reducible refine (spec_l24Cell.calls ((rd_T43 l0 x16_5).f0) ((rd_T43 l0 x16_5).f1) a1_0 a1_1 a1_2 t154 t155 _ A45.out).mono ?_
                   rintro e w55 ⟨rfl, hb⟩
                   refine ⟨_, rfl, ?_⟩
                   have n0_ := am (Kd.R_below (by (with_reducible repeat (first | apply Kd.R_alloc | apply Kd.R_drewN | apply Kd.R_drew)); exact HO_10.out) hb)
                   have n1_ := am (Kd.R_below (by (with_reducible repeat (first | apply Kd.R_alloc | apply Kd.R_drewN | apply Kd.R_drew)); exact HO_11.out) hb)
                   have n2_ := am (Bk4 (g := gb136) (o := .cells #[.int .i64 a1_0, .int .i64 a1_1, .int .i64 a1_2] 30 (0, 0)) (by (with_reducible repeat (first | refine Bk2 ?_ _ | refine Bk3 ?_ | refine Bk1 ?_ _)); exact BK136.out) hb)
                   have n3_ := am (Bk4 (g := gb151) (o := .cells #[.int .i64 x13_4, .int .i64 x12_2] 43 (0, 0)) (by (with_reducible repeat (first | refine Bk2 ?_ _ | refine Bk3 ?_ | refine Bk1 ?_ _)); exact BK151.out) hb)
                   have n4_ := am (Bk4 (g := gb152) (o := .cells #[.int .i64 x153000_5, .int .i64 x153001_5] 43 (0, 0)) (by (with_reducible repeat (first | refine Bk2 ?_ _ | refine Bk3 ?_ | refine Bk1 ?_ _)); exact BK152.out) hb)
                   have n5_ := am (Bb6 (by repeat (first | (with_reducible first | exact HB.out | apply Bb1 | apply Bb2 | apply Bb3 | refine Bb4 ?_ GE136.out | refine Bb4 ?_ GE151.out | refine Bb4 ?_ GE152.out) | exact HB.out)) hb)
                   clear HO_10
                   clear HO_11
                   clear BK136
                   clear BK151
                   clear BK152
                   clear HB
                   have HO_10 := n0_
                   have HO_11 := n1_
                   have BK136 := n2_
                   have BK151 := n3_
                   have BK152 := n4_
                   have HB := n5_
                   clear n0_ n1_ n2_ n3_ n4_ n5_
                   (try clear hb)
                   (try clear hb2)
                   (try clear hk)
                   (try clear hi)
                   refine hK.out _ _ ⟨(kc BK136.out 0).trans rfl, (kc BK136.out 1).trans rfl, (kc BK136.out 2).trans rfl, (kc BK151.out 0).trans rfl, (kc BK151.out 1).trans rfl, (pc HB.out hw153_0), (pc HB.out hw153_1)⟩ (fun hHeld => ?_)
                   clear hK K
                   refine norm_ (a' := ?_) ?_ ?_
                   rotate_left
                   ·show Act.put _ (some 72) _ = _
                    simp only [Act.put, sa, i64_w, i32_w]
                    rfl
                   refine one_ (i := 8) (N := some 75) spec_PatchOf.m9 rfl rfl (one_of HT_.out (by kernel_rfl)) (by decide) (fun K hK => ?_)
                   refine goes_ Try.func17 (by kernel_rfl) rfl #[.agg #[.int .i64 x13_4, .int .i64 x12_2], .agg #[.int .i64 a1_0, .int .i64 a1_1, .int .i64 a1_2]] (by rfl) rfl rfl (by (try simp only [List.map_toArray, List.map_cons, List.map_nil]); first | done | rfl | (simp only [List.length_drop, List.length_take]; rfl)) ?_
                   with_reducible refine (spec_l24Cell.calls x13_4 x12_2 a1_0 a1_1 a1_2 t156 t157 _ A46.out).mono ?_
                   rintro e w56 ⟨rfl, hb⟩
                   refine ⟨_, rfl, ?_⟩
                   have n0_ := am (Kd.R_below (by (with_reducible repeat (first | apply Kd.R_alloc | apply Kd.R_drewN | apply Kd.R_drew)); exact HO_10.out) hb)
                   have n1_ := am (Kd.R_below (by (with_reducible repeat (first | apply Kd.R_alloc | apply Kd.R_drewN | apply Kd.R_drew)); exact HO_11.out) hb)
                   have n2_ := am (Bk4 (g := gb136) (o := .cells #[.int .i64 a1_0, .int .i64 a1_1, .int .i64 a1_2] 30 (0, 0)) (by (with_reducible repeat (first | refine Bk2 ?_ _ | refine Bk3 ?_ | refine Bk1 ?_ _)); exact BK136.out) hb)
                   have n3_ := am (Bk4 (g := gb151) (o := .cells #[.int .i64 x13_4, .int .i64 x12_2] 43 (0, 0)) (by (with_reducible repeat (first | refine Bk2 ?_ _ | refine Bk3 ?_ | refine Bk1 ?_ _)); exact BK151.out) hb)
                   have n4_ := am (Bk4 (g := gb152) (o := .cells #[.int .i64 x153000_5, .int .i64 x153001_5] 43 (0, 0)) (by (with_reducible repeat (first | refine Bk2 ?_ _ | refine Bk3 ?_ | refine Bk1 ?_ _)); exact BK152.out) hb)
                   have n5_ := am (Bb6 (by repeat (first | (with_reducible first | exact HB.out | apply Bb1 | apply Bb2 | apply Bb3 | refine Bb4 ?_ GE136.out | refine Bb4 ?_ GE151.out | refine Bb4 ?_ GE152.out) | exact HB.out)) hb)
                   clear HO_10
                   clear HO_11
                   clear BK136
                   clear BK151
                   clear BK152
                   clear HB
                   have HO_10 := n0_
                   have HO_11 := n1_
                   have BK136 := n2_
                   have BK151 := n3_
                   have BK152 := n4_
                   have HB := n5_
                   clear n0_ n1_ n2_ n3_ n4_ n5_
                   (try clear hb)
                   (try clear hb2)
                   (try clear hk)
                   (try clear hi)
                   refine hK.out _ _ ⟨(kc BK136.out 0).trans rfl, (kc BK136.out 1).trans rfl, (kc BK136.out 2).trans rfl, (kc BK151.out 0).trans rfl, (kc BK151.out 1).trans rfl, (pc HB.out hw153_0), (pc HB.out hw153_1)⟩ (fun hHeld => ?_)
                   clear hK K
                   refine norm_ (a' := ?_) ?_ ?_
                   rotate_left
                   ·show Act.put _ (some 75) _ = _
                    simp only [Act.put, sa, i64_w, i32_w]
                    rfl
                   refine pure_ (i := 9) (N := some 76) (v := ?_) (a' := ?_) spec_PatchOf.m10 rfl rfl (any_of HT_.out (by kernel_rfl)) (fun _ _ _ h => h) (Or.inl ⟨by rfl, ?_⟩) ?_ ?_
                   rotate_left
                   ·intro w'
                    go_simp
                    with_reducible rfl
                   rotate_left
                   ·simp only [Act.put, sa, i64_w, i32_w]
                    rfl
                   refine done_ (done_of HT_.out (by kernel_rfl)) ?_
                   try go_wp2
                   go_roundg k5
                   case measure => have := HJ6.out; have := HK2.out; have := HJ30.out; have := HK4.out; have := HK5.out; omega
                   case rel => exact ⟨(wrap64 (x16_5 + 1)), (x153000_5), (x153001_5), (by first | rfl | (simp; done) | (simp [*]; done)), H', ⟨by have := HJ6.out; have := HK2.out; have := HJ30.out; have := HK4.out; have := HK5.out; omega⟩, ⟨by (with_reducible repeat (first | apply Kd.R_alloc | apply Kd.R_drewN | apply Kd.R_drew)); exact HO_10.out⟩, ⟨by (with_reducible repeat (first | apply Kd.R_alloc | apply Kd.R_drewN | apply Kd.R_drew)); exact HO_11.out⟩, ⟨by (with_reducible repeat (first | refine Bk2 ?_ _ | refine Bk3 ?_ | refine Bk1 ?_ _)); exact BK136.out⟩, ⟨by (with_reducible repeat (first | refine Bk2 ?_ _ | refine Bk3 ?_ | refine Bk1 ?_ _)); exact BK151.out⟩, ⟨by (with_reducible repeat (first | refine Bk2 ?_ _ | refine Bk3 ?_ | refine Bk1 ?_ _)); exact BK152.out⟩, ⟨by repeat (first | (with_reducible first | exact HB.out | apply Bb1 | apply Bb2 | apply Bb3 | refine Bb4 ?_ GE136.out | refine Bb4 ?_ GE151.out | refine Bb4 ?_ GE152.out) | exact HB.out)⟩⟩
                 ·rw [if_neg c44] at H
                  exact absurd H (by simp)
                ·rw [if_neg c43] at H
                 have c43b0 : decide (x16_5 < (l0.length : Int)) = false := decide_eq_false c43
                 clear c43
                 replace H := ob H
                 obtain ⟨t160, A570, H⟩ := H
                 replace H : (if t160 < 0 then (if x11_4.length < 8796093022208 then ((some (x11_4 ++ [(⟨x153000_5, x153001_5⟩ : S43)] : List (S43))).bind fun y161 => ((spec_l02Index.f k5 y161 x153000_5 x153001_5).bind fun t164 => (if x10_4.length < 140737488355328 then (spec_PatchOf.l1 k5 l0 a2 a3 (x10_4 ++ [(wrap64 (97 + (Int.tmod t164 26))) % 256]) y161 x12_2 (wrap64 (x13_4 + 1)) a1_0 a1_1 a1_2) else (none)))) else (none)) else ((spec_l02Index.f k5 x11_4 x153000_5 x153001_5).bind fun t168 => (if x10_4.length < 140737488355328 then (spec_PatchOf.l1 k5 l0 a2 a3 (x10_4 ++ [(wrap64 (97 + (Int.tmod t168 26))) % 256]) x11_4 x12_2 (wrap64 (x13_4 + 1)) a1_0 a1_1 a1_2) else (none)))) = some (r1, r2) := H
                 have A57 := am A570
                 clear A570
                 by_cases c58 : t160 < 0
                 ·rw [if_pos c58] at H
                  have c58b0 : decide (t160 < 0) = true := decide_eq_true c58
                  clear c58
                  by_cases c59 : x11_4.length < 8796093022208
                  ·rw [if_pos c59] at H
                   have LMc59 := am c59
                   clear c59
                   obtain ⟨y161, hy161⟩ : ∃ y_ : List (S43), y_ = (x11_4 ++ [(⟨x153000_5, x153001_5⟩ : S43)]) := ⟨_, rfl⟩
                   replace H : ((spec_l02Index.f k5 y161 x153000_5 x153001_5).bind fun t164 => (if x10_4.length < 140737488355328 then (spec_PatchOf.l1 k5 l0 a2 a3 (x10_4 ++ [(wrap64 (97 + (Int.tmod t164 26))) % 256]) y161 x12_2 (wrap64 (x13_4 + 1)) a1_0 a1_1 a1_2) else (none))) = some (r1, r2) := by first | (rw [hy161]; with_reducible exact H) | (have H2_ := (Option.bind_some _ _).symm.trans H; rw [hy161]; with_reducible exact H2_) | (have H2_ := (Option.bind_some _ _).symm.trans H; with_reducible exact H2_) | with_reducible exact H | (rw [hy161]; exact H) | exact H
                   have Ny161 := am hy161
                   clear hy161
                   replace H := ob H
                   obtain ⟨t164, A600, H⟩ := H
                   replace H : (if x10_4.length < 140737488355328 then (spec_PatchOf.l1 k5 l0 a2 a3 (x10_4 ++ [(wrap64 (97 + (Int.tmod t164 26))) % 256]) y161 x12_2 (wrap64 (x13_4 + 1)) a1_0 a1_1 a1_2) else (none)) = some (r1, r2) := H
                   have A60 := am A600
                   clear A600
                   by_cases c61 : x10_4.length < 140737488355328
                   ·rw [if_pos c61] at H
                    have LMc61 := am c61
                    clear c61
                    obtain ⟨y165, hy165⟩ : ∃ y_ : List Int, y_ = (x10_4 ++ [(wrap64 (97 + (Int.tmod t164 26))) % 256]) := ⟨_, rfl⟩
                    replace H : (spec_PatchOf.l1 k5 l0 a2 a3 y165 y161 x12_2 (wrap64 (x13_4 + 1)) a1_0 a1_1 a1_2) = some (r1, r2) := by first | (rw [hy165]; with_reducible exact H) | (have H2_ := (Option.bind_some _ _).symm.trans H; rw [hy165]; with_reducible exact H2_) | (have H2_ := (Option.bind_some _ _).symm.trans H; with_reducible exact H2_) | with_reducible exact H | (rw [hy165]; exact H) | exact H
                    have Ny165 := am hy165
                    clear hy165
                    have H' := am H
                    clear H
                    have hnb62 := NB152_136.out
                    have hnc62 := NB136_152.out
                    have hnb63 := NB152_151.out
                    have hnc63 := NB151_152.out
                    have hcz64_0 : wr.cell? ⟨gb152, 0, none⟩ = some (.int .i64 x153000_5) := (kc BK152.out 0).trans rfl
                    have hcz64_1 : wr.cell? ⟨gb152, 1, none⟩ = some (.int .i64 x153001_5) := (kc BK152.out 1).trans rfl
                    have hfz64_0 := kf BK152.out 0
                    have hfz64_1 := kf BK152.out 1
                    obtain ⟨Ao65, co65, eo65⟩ := Kd.R_slice HO_11.out
                    subst eo65
                    go_wp2_with (first | ((with_reducible refine gate_callee (f := 18) rfl ?_); refine goesL_ (some 94) rfl rfl Try.func18 (by kernel_rfl) rfl #[.slice Ao65 x11_4.length co65, .agg #[.int .i64 x153000_5, .int .i64 x153001_5]] rfl (by (try simp only [List.map_toArray, List.map_cons, List.map_nil]); first | done | rfl | (simp only [List.length_drop, List.length_take]; rfl)) ?_; (with_reducible refine (spec_l02Index.calls k5 _ _ x11_4 x153000_5 x153001_5 t160 _ ?side1 ?side2 A57.out).mono ?_); (case side1 => repeat (first | exact (Kd.R_reads' HO_11.out).2.2 | (with_reducible refine Kd.C_alloc ?_ _) | (with_reducible refine Kd.C_drewN ?_ _) | (with_reducible refine Kd.C_drew ?_))); (case side2 => exact (Kd.R_reads' HO_11.out).2.1); rintro e w66 ⟨rfl, hb⟩; refine ⟨_, rfl, ?_⟩; have n0_ := am (Kd.R_below (by (with_reducible repeat (first | apply Kd.R_alloc | apply Kd.R_drewN | apply Kd.R_drew)); exact HO_10.out) hb); have n1_ := am (Kd.R_below (by (with_reducible repeat (first | apply Kd.R_alloc | apply Kd.R_drewN | apply Kd.R_drew)); exact HO_11.out) hb); have n2_ := am (Bk4 (g := gb136) (o := .cells #[.int .i64 a1_0, .int .i64 a1_1, .int .i64 a1_2] 30 (0, 0)) (by (with_reducible repeat (first | refine Bk2 ?_ _ | refine Bk3 ?_ | refine Bk1 ?_ _)); exact BK136.out) hb); have n3_ := am (Bk4 (g := gb151) (o := .cells #[.int .i64 x13_4, .int .i64 x12_2] 43 (0, 0)) (by (with_reducible repeat (first | refine Bk2 ?_ _ | refine Bk3 ?_ | refine Bk1 ?_ _)); exact BK151.out) hb); have n4_ := am (Bk4 (g := gb152) (o := .cells #[.int .i64 x153000_5, .int .i64 x153001_5] 43 (0, 0)) (by (with_reducible repeat (first | refine Bk2 ?_ _ | refine Bk3 ?_ | refine Bk1 ?_ _)); exact BK152.out) hb); have n5_ := am (Bb6 (by repeat (first | (with_reducible first | exact HB.out | apply Bb1 | apply Bb2 | apply Bb3 | refine Bb4 ?_ GE136.out | refine Bb4 ?_ GE151.out | refine Bb4 ?_ GE152.out) | exact HB.out)) hb); clear HO_10; clear HO_11; clear BK136; clear BK151; clear BK152; clear HB; have HO_10 := n0_; have HO_11 := n1_; have BK136 := n2_; have BK151 := n3_; have BK152 := n4_; have HB := n5_; clear n0_ n1_ n2_ n3_ n4_ n5_; (try clear hb); (try clear hb2); (try clear hk); (try clear hi); have hcz67_0 : w66.cell? ⟨gb152, 0, none⟩ = some (.int .i64 x153000_5) := (kc BK152.out 0).trans rfl; have hcz67_1 : w66.cell? ⟨gb152, 1, none⟩ = some (.int .i64 x153001_5) := (kc BK152.out 1).trans rfl; have hfz67_0 := kf BK152.out 0; have hfz67_1 := kf BK152.out 1) | ((with_reducible refine gate_builtin (b := .append) (xs := #[.tmp 96, .tmp 98]) rfl ?_); at_builtin; refine Kd.R_append k43 (w0 := w) w.heap.size rfl (.tmp 96) (.tmp 98) 28 43 (.agg #[(.int .i64 0), (.int .i64 0)]) 16 rfl Try.underlying28 info43 rfl (by decide) (by omega) (.slice Ao65 x11_4.length co65) x11_4 (⟨x153000_5, x153001_5⟩ : S43) [.int .i64 x153000_5, .int .i64 x153001_5] (fun k_ => k_ ≠ gb151 ∧ k_ ≠ gb152) (fun _ => False) rfl rfl ?aP (fun _ hk => hk.elim) ?aF ?aO ?aB ?aS ?aL ?_; (case aP => exact k43_mkM _ _ _ (⟨x153000_5, x153001_5⟩ : S43)); (case aB => exact (by repeat (first | (with_reducible first | exact HB.out | apply Bb1 | apply Bb2 | apply Bb3 | refine Bb4 ?_ GE136.out | refine Bb4 ?_ GE151.out | refine Bb4 ?_ GE152.out) | exact HB.out))); (case aF => exact (fun k_ hk => ⟨Kd.freshB (g := gb151) (o := .cells #[.int .i64 x13_4, .int .i64 x12_2] 43 (0, 0)) (by (with_reducible repeat (first | refine Bk2 ?_ _ | refine Bk3 ?_ | refine Bk1 ?_ _)); exact BK151.out) k_ hk, Kd.freshB (g := gb152) (o := .cells #[.int .i64 x153000_5, .int .i64 x153001_5] 43 (0, 0)) (by (with_reducible repeat (first | refine Bk2 ?_ _ | refine Bk3 ?_ | refine Bk1 ?_ _)); exact BK152.out) k_ hk⟩)); (case aO => exact (by (with_reducible repeat (first | apply Kd.R_alloc | apply Kd.R_drewN | apply Kd.R_drew)); exact HO_11.out)); (case aS => exact (Bb5 (by repeat (first | (with_reducible first | exact HB.out | apply Bb1 | apply Bb2 | apply Bb3 | refine Bb4 ?_ GE136.out | refine Bb4 ?_ GE151.out | refine Bb4 ?_ GE152.out) | exact HB.out)))); (case aL => have := LMc59.out; omega); intro v162 w68 ho hb hg hat; rw [← Ny161.out] at ho; have n0_ := am (Kd.R_over' (by (with_reducible repeat (first | apply Kd.R_alloc | apply Kd.R_drewN | apply Kd.R_drew)); exact HO_10.out) (Kd.R_typed (by (with_reducible repeat (first | apply Kd.R_alloc | apply Kd.R_drewN | apply Kd.R_drew)); exact HO_11.out)) (by decide) hg); have n1_ := am (blk_grown (g := gb136) (o := .cells #[.int .i64 a1_0, .int .i64 a1_1, .int .i64 a1_2] 30 (0, 0)) (by (with_reducible repeat (first | refine Bk2 ?_ _ | refine Bk3 ?_ | refine Bk1 ?_ _)); exact BK136.out) hg (Kd.R_ne HO_11.out BK136.out (by decide))); have n2_ := am (blk_grown (g := gb151) (o := .cells #[.int .i64 x13_4, .int .i64 x12_2] 43 (0, 0)) (by (with_reducible repeat (first | refine Bk2 ?_ _ | refine Bk3 ?_ | refine Bk1 ?_ _)); exact BK151.out) hg (Kd.R_away HO_11.out (fun _ hk => hk.1))); have n3_ := am (blk_grown (g := gb152) (o := .cells #[.int .i64 x153000_5, .int .i64 x153001_5] 43 (0, 0)) (by (with_reducible repeat (first | refine Bk2 ?_ _ | refine Bk3 ?_ | refine Bk1 ?_ _)); exact BK152.out) hg (Kd.R_away HO_11.out (fun _ hk => hk.2))); have n4_ := am (hb); have n5_ := am (ho); clear HO_10; clear BK136; clear BK151; clear BK152; clear HB; clear HO_11; have HO_10 := n0_; have BK136 := n1_; have BK151 := n2_; have BK152 := n3_; have HB := n4_; have HO163 := n5_; clear n0_ n1_ n2_ n3_ n4_ n5_; clear ho hb hg hat; have hcz69_0 : w68.cell? ⟨gb152, 0, none⟩ = some (.int .i64 x153000_5) := (kc BK152.out 0).trans rfl; have hcz69_1 : w68.cell? ⟨gb152, 1, none⟩ = some (.int .i64 x153001_5) := (kc BK152.out 1).trans rfl; have hfz69_0 := kf BK152.out 0; have hfz69_1 := kf BK152.out 1; obtain ⟨Ao70, co70, eo70⟩ := Kd.R_slice HO163.out; subst eo70) | ((with_reducible refine gate_callee (f := 18) rfl ?_); refine goesL_ (some 103) rfl rfl Try.func18 (by kernel_rfl) rfl #[.slice Ao70 y161.length co70, .agg #[.int .i64 x153000_5, .int .i64 x153001_5]] rfl (by (try simp only [List.map_toArray, List.map_cons, List.map_nil]); first | done | rfl | (simp only [List.length_drop, List.length_take]; rfl)) ?_; (with_reducible refine (spec_l02Index.calls k5 _ _ y161 x153000_5 x153001_5 t164 _ ?side1 ?side2 A60.out).mono ?_); (case side1 => repeat (first | exact (Kd.R_reads' HO163.out).2.2 | (with_reducible refine Kd.C_alloc ?_ _) | (with_reducible refine Kd.C_drewN ?_ _) | (with_reducible refine Kd.C_drew ?_))); (case side2 => exact (Kd.R_reads' HO163.out).2.1); rintro e w71 ⟨rfl, hb⟩; refine ⟨_, rfl, ?_⟩; have n0_ := am (Kd.R_below (by (with_reducible repeat (first | apply Kd.R_alloc | apply Kd.R_drewN | apply Kd.R_drew)); exact HO_10.out) hb); have n1_ := am (Kd.R_below (by (with_reducible repeat (first | apply Kd.R_alloc | apply Kd.R_drewN | apply Kd.R_drew)); exact HO163.out) hb); have n2_ := am (Bk4 (g := gb136) (o := .cells #[.int .i64 a1_0, .int .i64 a1_1, .int .i64 a1_2] 30 (0, 0)) (by (with_reducible repeat (first | refine Bk2 ?_ _ | refine Bk3 ?_ | refine Bk1 ?_ _)); exact BK136.out) hb); have n3_ := am (Bk4 (g := gb151) (o := .cells #[.int .i64 x13_4, .int .i64 x12_2] 43 (0, 0)) (by (with_reducible repeat (first | refine Bk2 ?_ _ | refine Bk3 ?_ | refine Bk1 ?_ _)); exact BK151.out) hb); have n4_ := am (Bk4 (g := gb152) (o := .cells #[.int .i64 x153000_5, .int .i64 x153001_5] 43 (0, 0)) (by (with_reducible repeat (first | refine Bk2 ?_ _ | refine Bk3 ?_ | refine Bk1 ?_ _)); exact BK152.out) hb); have n5_ := am (Bb6 (by repeat (first | (with_reducible first | exact HB.out | apply Bb1 | apply Bb2 | apply Bb3 | refine Bb4 ?_ GE136.out | refine Bb4 ?_ GE151.out | refine Bb4 ?_ GE152.out) | exact HB.out)) hb); clear HO_10; clear HO163; clear BK136; clear BK151; clear BK152; clear HB; have HO_10 := n0_; have HO163 := n1_; have BK136 := n2_; have BK151 := n3_; have BK152 := n4_; have HB := n5_; clear n0_ n1_ n2_ n3_ n4_ n5_; (try clear hb); (try clear hb2); (try clear hk); (try clear hi)) | ((with_reducible refine gate_builtin (b := .append) (xs := #[.tmp 100, .tmp 107]) rfl ?_); at_builtin; refine Kd.R_append (Kd.int .u8) (w0 := w) w.heap.size rfl (.tmp 100) (.tmp 107) 34 5 (.int .u8 0) 1 rfl Try.underlying34 info5 rfl (by decide) (by omega) u10 x10_4 ((wrap64 (97 + (Int.tmod t164 26))) % 256) [.int .u8 ((wrap64 (97 + (Int.tmod t164 26))) % 256)] (fun _ => True) (fun _ => False) rfl rfl ?aP (fun _ hk => hk.elim) ?aF ?aO ?aB ?aS ?aL ?_; (case aP => exact rfl); (case aB => exact (by repeat (first | (with_reducible first | exact HB.out | apply Bb1 | apply Bb2 | apply Bb3 | refine Bb4 ?_ GE136.out | refine Bb4 ?_ GE151.out | refine Bb4 ?_ GE152.out) | exact HB.out))); (case aF => exact (fun _ _ => trivial)); (case aO => exact (by (with_reducible repeat (first | apply Kd.R_alloc | apply Kd.R_drewN | apply Kd.R_drew)); exact HO_10.out)); (case aS => exact (Bb5 (by repeat (first | (with_reducible first | exact HB.out | apply Bb1 | apply Bb2 | apply Bb3 | refine Bb4 ?_ GE136.out | refine Bb4 ?_ GE151.out | refine Bb4 ?_ GE152.out) | exact HB.out)))); (case aL => have := LMc61.out; omega); intro v166 w72 ho hb hg hat; rw [← Ny165.out] at ho; have n0_ := am (blk_grown (g := gb136) (o := .cells #[.int .i64 a1_0, .int .i64 a1_1, .int .i64 a1_2] 30 (0, 0)) (by (with_reducible repeat (first | refine Bk2 ?_ _ | refine Bk3 ?_ | refine Bk1 ?_ _)); exact BK136.out) hg (Kd.R_ne HO_10.out BK136.out (by decide))); have n1_ := am (blk_grown (g := gb151) (o := .cells #[.int .i64 x13_4, .int .i64 x12_2] 43 (0, 0)) (by (with_reducible repeat (first | refine Bk2 ?_ _ | refine Bk3 ?_ | refine Bk1 ?_ _)); exact BK151.out) hg (Kd.R_ne HO_10.out BK151.out (by decide))); have n2_ := am (blk_grown (g := gb152) (o := .cells #[.int .i64 x153000_5, .int .i64 x153001_5] 43 (0, 0)) (by (with_reducible repeat (first | refine Bk2 ?_ _ | refine Bk3 ?_ | refine Bk1 ?_ _)); exact BK152.out) hg (Kd.R_ne HO_10.out BK152.out (by decide))); have n3_ := am (Kd.R_over' (by (with_reducible repeat (first | apply Kd.R_alloc | apply Kd.R_drewN | apply Kd.R_drew)); exact HO163.out) (Kd.R_typed (by (with_reducible repeat (first | apply Kd.R_alloc | apply Kd.R_drewN | apply Kd.R_drew)); exact HO_10.out)) (by decide) hg); have n4_ := am (hb); have n5_ := am (ho); clear BK136; clear BK151; clear BK152; clear HO163; clear HB; clear HO_10; have BK136 := n0_; have BK151 := n1_; have BK152 := n2_; have HO163 := n3_; have HB := n4_; have HO167 := n5_; clear n0_ n1_ n2_ n3_ n4_ n5_; clear ho hb hg hat))
                    go_roundg k5
                    case measure => have := HJ6.out; have := HK2.out; have := HJ30.out; have := HK4.out; have := HK5.out; omega
                    case rel => exact ⟨(y165), (y161), (wrap64 (x13_4 + 1)), (by first | rfl | (simp; done) | (simp [*]; done)), H', ⟨by have := HJ6.out; have := HK2.out; have := HJ30.out; have := HK4.out; have := HK5.out; omega⟩, ⟨by (with_reducible repeat (first | apply Kd.R_alloc | apply Kd.R_drewN | apply Kd.R_drew)); exact HO167.out⟩, ⟨by (with_reducible repeat (first | apply Kd.R_alloc | apply Kd.R_drewN | apply Kd.R_drew)); exact Kd.R_mono HO163.out (fun _ hk => trivial)⟩, ⟨by (with_reducible repeat (first | refine Bk2 ?_ _ | refine Bk3 ?_ | refine Bk1 ?_ _)); exact BK136.out⟩, ⟨by repeat (first | (with_reducible first | exact HB.out | apply Bb1 | apply Bb2 | apply Bb3 | refine Bb4 ?_ GE136.out | refine Bb4 ?_ GE151.out | refine Bb4 ?_ GE152.out) | exact HB.out)⟩⟩
                   ·rw [if_neg c61] at H
                    exact absurd H (by simp)
                  ·rw [if_neg c59] at H
                   exact absurd H (by simp)
                 ·rw [if_neg c58] at H
                  have c58b0 : decide (t160 < 0) = false := decide_eq_false c58
                  clear c58
                  replace H := ob H
                  obtain ⟨t168, A730, H⟩ := H
                  replace H : (if x10_4.length < 140737488355328 then (spec_PatchOf.l1 k5 l0 a2 a3 (x10_4 ++ [(wrap64 (97 + (Int.tmod t168 26))) % 256]) x11_4 x12_2 (wrap64 (x13_4 + 1)) a1_0 a1_1 a1_2) else (none)) = some (r1, r2) := H
                  have A73 := am A730
                  clear A730
                  by_cases c74 : x10_4.length < 140737488355328
                  ·rw [if_pos c74] at H
                   have LMc74 := am c74
                   clear c74
                   obtain ⟨y169, hy169⟩ : ∃ y_ : List Int, y_ = (x10_4 ++ [(wrap64 (97 + (Int.tmod t168 26))) % 256]) := ⟨_, rfl⟩
                   replace H : (spec_PatchOf.l1 k5 l0 a2 a3 y169 x11_4 x12_2 (wrap64 (x13_4 + 1)) a1_0 a1_1 a1_2) = some (r1, r2) := by first | (rw [hy169]; with_reducible exact H) | (have H2_ := (Option.bind_some _ _).symm.trans H; rw [hy169]; with_reducible exact H2_) | (have H2_ := (Option.bind_some _ _).symm.trans H; with_reducible exact H2_) | with_reducible exact H | (rw [hy169]; exact H) | exact H
                   have Ny169 := am hy169
                   clear hy169
                   have H' := am H
                   clear H
                   have hnb75 := NB152_136.out
                   have hnc75 := NB136_152.out
                   have hnb76 := NB152_151.out
                   have hnc76 := NB151_152.out
                   have hcz77_0 : wr.cell? ⟨gb152, 0, none⟩ = some (.int .i64 x153000_5) := (kc BK152.out 0).trans rfl
                   have hcz77_1 : wr.cell? ⟨gb152, 1, none⟩ = some (.int .i64 x153001_5) := (kc BK152.out 1).trans rfl
                   have hfz77_0 := kf BK152.out 0
                   have hfz77_1 := kf BK152.out 1
                   obtain ⟨Ao78, co78, eo78⟩ := Kd.R_slice HO_11.out
                   subst eo78
                   go_wp2_with (first | ((with_reducible refine gate_callee (f := 18) rfl ?_); refine goesL_ (some 94) rfl rfl Try.func18 (by kernel_rfl) rfl #[.slice Ao78 x11_4.length co78, .agg #[.int .i64 x153000_5, .int .i64 x153001_5]] rfl (by (try simp only [List.map_toArray, List.map_cons, List.map_nil]); first | done | rfl | (simp only [List.length_drop, List.length_take]; rfl)) ?_; (with_reducible refine (spec_l02Index.calls k5 _ _ x11_4 x153000_5 x153001_5 t160 _ ?side1 ?side2 A57.out).mono ?_); (case side1 => repeat (first | exact (Kd.R_reads' HO_11.out).2.2 | (with_reducible refine Kd.C_alloc ?_ _) | (with_reducible refine Kd.C_drewN ?_ _) | (with_reducible refine Kd.C_drew ?_))); (case side2 => exact (Kd.R_reads' HO_11.out).2.1); rintro e w79 ⟨rfl, hb⟩; refine ⟨_, rfl, ?_⟩; have n0_ := am (Kd.R_below (by (with_reducible repeat (first | apply Kd.R_alloc | apply Kd.R_drewN | apply Kd.R_drew)); exact HO_10.out) hb); have n1_ := am (Kd.R_below (by (with_reducible repeat (first | apply Kd.R_alloc | apply Kd.R_drewN | apply Kd.R_drew)); exact HO_11.out) hb); have n2_ := am (Bk4 (g := gb136) (o := .cells #[.int .i64 a1_0, .int .i64 a1_1, .int .i64 a1_2] 30 (0, 0)) (by (with_reducible repeat (first | refine Bk2 ?_ _ | refine Bk3 ?_ | refine Bk1 ?_ _)); exact BK136.out) hb); have n3_ := am (Bk4 (g := gb151) (o := .cells #[.int .i64 x13_4, .int .i64 x12_2] 43 (0, 0)) (by (with_reducible repeat (first | refine Bk2 ?_ _ | refine Bk3 ?_ | refine Bk1 ?_ _)); exact BK151.out) hb); have n4_ := am (Bk4 (g := gb152) (o := .cells #[.int .i64 x153000_5, .int .i64 x153001_5] 43 (0, 0)) (by (with_reducible repeat (first | refine Bk2 ?_ _ | refine Bk3 ?_ | refine Bk1 ?_ _)); exact BK152.out) hb); have n5_ := am (Bb6 (by repeat (first | (with_reducible first | exact HB.out | apply Bb1 | apply Bb2 | apply Bb3 | refine Bb4 ?_ GE136.out | refine Bb4 ?_ GE151.out | refine Bb4 ?_ GE152.out) | exact HB.out)) hb); clear HO_10; clear HO_11; clear BK136; clear BK151; clear BK152; clear HB; have HO_10 := n0_; have HO_11 := n1_; have BK136 := n2_; have BK151 := n3_; have BK152 := n4_; have HB := n5_; clear n0_ n1_ n2_ n3_ n4_ n5_; (try clear hb); (try clear hb2); (try clear hk); (try clear hi); have hcz80_0 : w79.cell? ⟨gb152, 0, none⟩ = some (.int .i64 x153000_5) := (kc BK152.out 0).trans rfl; have hcz80_1 : w79.cell? ⟨gb152, 1, none⟩ = some (.int .i64 x153001_5) := (kc BK152.out 1).trans rfl; have hfz80_0 := kf BK152.out 0; have hfz80_1 := kf BK152.out 1) | ((with_reducible refine gate_callee (f := 18) rfl ?_); refine goesL_ (some 103) rfl rfl Try.func18 (by kernel_rfl) rfl #[.slice Ao78 x11_4.length co78, .agg #[.int .i64 x153000_5, .int .i64 x153001_5]] rfl (by (try simp only [List.map_toArray, List.map_cons, List.map_nil]); first | done | rfl | (simp only [List.length_drop, List.length_take]; rfl)) ?_; (with_reducible refine (spec_l02Index.calls k5 _ _ x11_4 x153000_5 x153001_5 t168 _ ?side1 ?side2 A73.out).mono ?_); (case side1 => repeat (first | exact (Kd.R_reads' HO_11.out).2.2 | (with_reducible refine Kd.C_alloc ?_ _) | (with_reducible refine Kd.C_drewN ?_ _) | (with_reducible refine Kd.C_drew ?_))); (case side2 => exact (Kd.R_reads' HO_11.out).2.1); rintro e w81 ⟨rfl, hb⟩; refine ⟨_, rfl, ?_⟩; have n0_ := am (Kd.R_below (by (with_reducible repeat (first | apply Kd.R_alloc | apply Kd.R_drewN | apply Kd.R_drew)); exact HO_10.out) hb); have n1_ := am (Kd.R_below (by (with_reducible repeat (first | apply Kd.R_alloc | apply Kd.R_drewN | apply Kd.R_drew)); exact HO_11.out) hb); have n2_ := am (Bk4 (g := gb136) (o := .cells #[.int .i64 a1_0, .int .i64 a1_1, .int .i64 a1_2] 30 (0, 0)) (by (with_reducible repeat (first | refine Bk2 ?_ _ | refine Bk3 ?_ | refine Bk1 ?_ _)); exact BK136.out) hb); have n3_ := am (Bk4 (g := gb151) (o := .cells #[.int .i64 x13_4, .int .i64 x12_2] 43 (0, 0)) (by (with_reducible repeat (first | refine Bk2 ?_ _ | refine Bk3 ?_ | refine Bk1 ?_ _)); exact BK151.out) hb); have n4_ := am (Bk4 (g := gb152) (o := .cells #[.int .i64 x153000_5, .int .i64 x153001_5] 43 (0, 0)) (by (with_reducible repeat (first | refine Bk2 ?_ _ | refine Bk3 ?_ | refine Bk1 ?_ _)); exact BK152.out) hb); have n5_ := am (Bb6 (by repeat (first | (with_reducible first | exact HB.out | apply Bb1 | apply Bb2 | apply Bb3 | refine Bb4 ?_ GE136.out | refine Bb4 ?_ GE151.out | refine Bb4 ?_ GE152.out) | exact HB.out)) hb); clear HO_10; clear HO_11; clear BK136; clear BK151; clear BK152; clear HB; have HO_10 := n0_; have HO_11 := n1_; have BK136 := n2_; have BK151 := n3_; have BK152 := n4_; have HB := n5_; clear n0_ n1_ n2_ n3_ n4_ n5_; (try clear hb); (try clear hb2); (try clear hk); (try clear hi)) | ((with_reducible refine gate_builtin (b := .append) (xs := #[.tmp 100, .tmp 107]) rfl ?_); at_builtin; refine Kd.R_append (Kd.int .u8) (w0 := w) w.heap.size rfl (.tmp 100) (.tmp 107) 34 5 (.int .u8 0) 1 rfl Try.underlying34 info5 rfl (by decide) (by omega) u10 x10_4 ((wrap64 (97 + (Int.tmod t168 26))) % 256) [.int .u8 ((wrap64 (97 + (Int.tmod t168 26))) % 256)] (fun _ => True) (fun _ => False) rfl rfl ?aP (fun _ hk => hk.elim) ?aF ?aO ?aB ?aS ?aL ?_; (case aP => exact rfl); (case aB => exact (by repeat (first | (with_reducible first | exact HB.out | apply Bb1 | apply Bb2 | apply Bb3 | refine Bb4 ?_ GE136.out | refine Bb4 ?_ GE151.out | refine Bb4 ?_ GE152.out) | exact HB.out))); (case aF => exact (fun _ _ => trivial)); (case aO => exact (by (with_reducible repeat (first | apply Kd.R_alloc | apply Kd.R_drewN | apply Kd.R_drew)); exact HO_10.out)); (case aS => exact (Bb5 (by repeat (first | (with_reducible first | exact HB.out | apply Bb1 | apply Bb2 | apply Bb3 | refine Bb4 ?_ GE136.out | refine Bb4 ?_ GE151.out | refine Bb4 ?_ GE152.out) | exact HB.out)))); (case aL => have := LMc74.out; omega); intro v170 w82 ho hb hg hat; rw [← Ny169.out] at ho; have n0_ := am (Kd.R_over' (by (with_reducible repeat (first | apply Kd.R_alloc | apply Kd.R_drewN | apply Kd.R_drew)); exact HO_11.out) (Kd.R_typed (by (with_reducible repeat (first | apply Kd.R_alloc | apply Kd.R_drewN | apply Kd.R_drew)); exact HO_10.out)) (by decide) hg); have n1_ := am (blk_grown (g := gb136) (o := .cells #[.int .i64 a1_0, .int .i64 a1_1, .int .i64 a1_2] 30 (0, 0)) (by (with_reducible repeat (first | refine Bk2 ?_ _ | refine Bk3 ?_ | refine Bk1 ?_ _)); exact BK136.out) hg (Kd.R_ne HO_10.out BK136.out (by decide))); have n2_ := am (blk_grown (g := gb151) (o := .cells #[.int .i64 x13_4, .int .i64 x12_2] 43 (0, 0)) (by (with_reducible repeat (first | refine Bk2 ?_ _ | refine Bk3 ?_ | refine Bk1 ?_ _)); exact BK151.out) hg (Kd.R_ne HO_10.out BK151.out (by decide))); have n3_ := am (blk_grown (g := gb152) (o := .cells #[.int .i64 x153000_5, .int .i64 x153001_5] 43 (0, 0)) (by (with_reducible repeat (first | refine Bk2 ?_ _ | refine Bk3 ?_ | refine Bk1 ?_ _)); exact BK152.out) hg (Kd.R_ne HO_10.out BK152.out (by decide))); have n4_ := am (hb); have n5_ := am (ho); clear HO_11; clear BK136; clear BK151; clear BK152; clear HB; clear HO_10; have HO_11 := n0_; have BK136 := n1_; have BK151 := n2_; have BK152 := n3_; have HB := n4_; have HO171 := n5_; clear n0_ n1_ n2_ n3_ n4_ n5_; clear ho hb hg hat))
                   go_roundg k5
                   case measure => have := HJ6.out; have := HK2.out; have := HJ30.out; have := HK4.out; have := HK5.out; omega
                   case rel => exact ⟨(y169), (x11_4), (wrap64 (x13_4 + 1)), (by first | rfl | (simp; done) | (simp [*]; done)), H', ⟨by have := HJ6.out; have := HK2.out; have := HJ30.out; have := HK4.out; have := HK5.out; omega⟩, ⟨by (with_reducible repeat (first | apply Kd.R_alloc | apply Kd.R_drewN | apply Kd.R_drew)); exact HO171.out⟩, ⟨by (with_reducible repeat (first | apply Kd.R_alloc | apply Kd.R_drewN | apply Kd.R_drew)); exact Kd.R_mono HO_11.out (fun _ hk => trivial)⟩, ⟨by (with_reducible repeat (first | refine Bk2 ?_ _ | refine Bk3 ?_ | refine Bk1 ?_ _)); exact BK136.out⟩, ⟨by repeat (first | (with_reducible first | exact HB.out | apply Bb1 | apply Bb2 | apply Bb3 | refine Bb4 ?_ GE136.out | refine Bb4 ?_ GE151.out | refine Bb4 ?_ GE152.out) | exact HB.out)⟩⟩
                  ·rw [if_neg c74] at H
                   exact absurd H (by simp)
             ·rw [if_neg c35] at H
              have c35b0 : decide (x13_4 < a2) = false := decide_eq_false c35
              clear c35
              have H' := am H
              clear H
              go_wp2
              go_roundg k4
              case measure => have := HJ6.out; have := HK2.out; have := HJ30.out; have := HK4.out; omega
              case rel => exact ⟨(x10_4), (x11_4), (wrap64 (x12_2 + 1)), (by first | rfl | (simp; done) | (simp [*]; done)), H', ⟨by have := HJ6.out; have := HK2.out; have := HJ30.out; have := HK4.out; omega⟩, ⟨by (with_reducible repeat (first | apply Kd.R_alloc | apply Kd.R_drewN | apply Kd.R_drew)); exact HO_10.out⟩, ⟨by (with_reducible repeat (first | apply Kd.R_alloc | apply Kd.R_drewN | apply Kd.R_drew)); exact HO_11.out⟩, ⟨by (with_reducible repeat (first | refine Bk2 ?_ _ | refine Bk3 ?_ | refine Bk1 ?_ _)); exact BK136.out⟩, ⟨by repeat (first | (with_reducible first | exact HB.out | apply Bb1 | apply Bb2 | apply Bb3 | refine Bb4 ?_ GE136.out) | exact HB.out)⟩⟩
        ·rw [if_neg c30] at H
         have c30b0 : decide (x12_2 < a3) = false := decide_eq_false c30
         clear c30
         simp only [Option.some.injEq, Prod.mk.injEq] at H
         obtain ⟨rfl, rfl⟩ := H
         have hcv83 := own_string (P := Try.prog) Try.underlying34 Try.underlying5 Try.underlying9 (Kd.own_of_R HO_10.out)
         go_wp2
         go_ret2
         exact ⟨by first | rfl | (simp [errW_none, errW_some] <;> rfl) | (simp [*, errW_none, errW_some] <;> rfl), by repeat (first | (with_reducible first | exact HB.out | apply Bb1 | apply Bb2 | apply Bb3 | refine Bb4 ?_ GE136.out) | exact HB.out)⟩
     ·replace c23 := ef c23
      subst c23
      have H1 : (some ((⟨#[]⟩ : ByteArray), 5)) = some (r1, r2) := by first | (rw [if_neg (show ¬ (false = true) by decide)] at H; exact H) | rfl
      clear H
      have H := H1
      clear H1
      simp only [Option.some.injEq, Prod.mk.injEq] at H
      obtain ⟨rfl, rfl⟩ := H
      have hcz84_0 : wc.cell? ⟨gb136, 0, none⟩ = some (.int .i64 a1_0) := (kc BK136.out 0).trans rfl
      have hcz84_1 : wc.cell? ⟨gb136, 1, none⟩ = some (.int .i64 a1_1) := (kc BK136.out 1).trans rfl
      have hcz84_2 : wc.cell? ⟨gb136, 2, none⟩ = some (.int .i64 a1_2) := (kc BK136.out 2).trans rfl
      have hfz84_0 := kf BK136.out 0
      have hfz84_1 := kf BK136.out 1
      have hfz84_2 := kf BK136.out 2
      go_wp2_with (first | ((with_reducible refine gate_callee (f := 16) rfl ?_); refine goesL_ (some 38) rfl rfl Try.func16 (by kernel_rfl) rfl #[.slice A0 l0.length c0, .agg #[.int .i64 a1_0, .int .i64 a1_1, .int .i64 a1_2]] rfl (by (try simp only [List.map_toArray, List.map_cons, List.map_nil]); first | done | rfl | (simp only [List.length_drop, List.length_take]; rfl)) ?_; (with_reducible refine (spec_l24Tiles.calls kj6 _ _ l0 a1_0 a1_1 a1_2 false _ ?side1 ?side2 A22.out).mono ?_); (case side1 => repeat (first | exact (Kd.C_below HR0.out HB.out) | (with_reducible refine Kd.C_alloc ?_ _) | (with_reducible refine Kd.C_drewN ?_ _) | (with_reducible refine Kd.C_drew ?_))); (case side2 => exact HC0.out); rintro e w85 ⟨rfl, hb⟩; refine ⟨_, rfl, ?_⟩; have n0_ := am (Bk4 (g := gb136) (o := .cells #[.int .i64 a1_0, .int .i64 a1_1, .int .i64 a1_2] 30 (0, 0)) (by (with_reducible repeat (first | refine Bk2 ?_ _ | refine Bk3 ?_ | refine Bk1 ?_ _)); exact BK136.out) hb); have n1_ := am (Bb6 (by repeat (first | (with_reducible first | exact HB.out | apply Bb1 | apply Bb2 | apply Bb3 | refine Bb4 ?_ GE136.out) | exact HB.out)) hb); clear BK136; clear HB; have BK136 := n0_; have HB := n1_; clear n0_ n1_; (try clear hb); (try clear hb2); (try clear hk); (try clear hi)))
      go_ret2
      exact ⟨by first | rfl | (simp [errW_none, errW_some] <;> rfl) | (simp [*, errW_none, errW_some] <;> rfl), by repeat (first | (with_reducible first | exact HB.out | apply Bb1 | apply Bb2 | apply Bb3 | refine Bb4 ?_ GE136.out) | exact HB.out)⟩
 ·replace c6 := ef c6
  subst c6
  have H1 : (some ((⟨#[]⟩ : ByteArray), 1)) = some (r1, r2) := by first | (rw [if_neg (show ¬ (false = true) by decide)] at H; exact H) | rfl
  clear H
  have H := H1
  clear H1
  simp only [Option.some.injEq, Prod.mk.injEq] at H
  obtain ⟨rfl, rfl⟩ := H
  go_enter Try.func6, Try.ntmps6
  go_wp2_with (first | ((with_reducible refine gate_dst (N := 5) rfl ?_); refine box_event ?hg (N := 5) ?hd (cs := #[.int .i64 a1_0, .int .i64 a1_1, .int .i64 a1_2]) (t := 30) ?hr ?_; (case hd => rfl); (case hg => rfl); (case hr => first | (go_simp; done) | (go_simp; rfl)); intro gb136 hg w86 hbox hb; have n0_ := am (Bb6 (by repeat (first | (with_reducible first | exact HB.out | apply Bb1 | apply Bb2 | apply Bb3) | exact HB.out)) hb); have n1_ := am (hbox); have n2_ := am ((by rw [hg]; exact (Bb5 (by repeat (first | (with_reducible first | exact HB.out | apply Bb1 | apply Bb2 | apply Bb3) | exact HB.out))) : w.heap.size ≤ gb136)); have n3_ := n2_; clear HB; have HB := n0_; have BK136 := n1_; have GW136 := n2_; have GE136 := n3_; clear n0_ n1_ n2_ n3_; clear hb hbox hg) | ((with_reducible refine gate_callee (f := 13) rfl ?_); refine goesL_ (some 19) rfl rfl Try.func13 (by kernel_rfl) rfl #[.slice A0 l0.length c0] rfl (by (try simp only [List.map_toArray, List.map_cons, List.map_nil]); first | done | rfl | (simp only [List.length_drop, List.length_take]; rfl)) ?_; (with_reducible refine (spec_IsShape.calls k _ _ l0 false _ ?side1 ?side2 A5.out).mono ?_); (case side1 => repeat (first | exact (Kd.C_below HR0.out HB.out) | (with_reducible refine Kd.C_alloc ?_ _) | (with_reducible refine Kd.C_drewN ?_ _) | (with_reducible refine Kd.C_drew ?_))); (case side2 => exact HC0.out); rintro e w87 ⟨rfl, hb⟩; refine ⟨_, rfl, ?_⟩; have n0_ := am (Bk4 (g := gb136) (o := .cells #[.int .i64 a1_0, .int .i64 a1_1, .int .i64 a1_2] 30 (0, 0)) (by (with_reducible repeat (first | refine Bk2 ?_ _ | refine Bk3 ?_ | refine Bk1 ?_ _)); exact BK136.out) hb); have n1_ := am (Bb6 (by repeat (first | (with_reducible first | exact HB.out | apply Bb1 | apply Bb2 | apply Bb3 | refine Bb4 ?_ GE136.out) | exact HB.out)) hb); clear BK136; clear HB; have BK136 := n0_; have HB := n1_; clear n0_ n1_; (try clear hb); (try clear hb2); (try clear hk); (try clear hi)))
  go_ret2
  exact ⟨by first | rfl | (simp [errW_none, errW_some] <;> rfl) | (simp [*, errW_none, errW_some] <;> rfl), by repeat (first | (with_reducible first | exact HB.out | apply Bb1 | apply Bb2 | apply Bb3 | refine Bb4 ?_ GE136.out) | exact HB.out)⟩

end Go.Proofs.Ytpinaeegopdknaa.Q
