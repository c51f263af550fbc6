/- Written by a program of this session (wip/tools/pp.py) out of the translation, with the kit's printer. -/
import Derived.Test.YtcgnnfaemjjljaaDoorQ0
import Derived.Test.YtcgnnfaemjjljaaDoorQGimplbackWord
namespace Go.Proofs.YtcgnnfaemjjljaaDoor.Q
open Go.RowKit Go.Proofs.YtcgnnfaemjjljaaDoorW.PrintWords Go.Proofs.YtcgnnfaemjjljaaDoorW.PrintLast Go.Proofs.YtcgnnfaemjjljaaDoorW.PrintMore
attribute [local go_sem] max2_int min2_int max_two min_two max_three min_three max_four min_four
set_option linter.unusedVariables false
set_option linter.unusedSimpArgs false

/-! ### impl_isFactoring: function 41 -/
abbrev impl_isFactoring.m0 : Array Bool := #[z',z',z',z',z',z',z',z',z',z',z',z',z',z',z',z',z',z',z',z',z',z',z',z',z',z',z',z',z',z',z',z',z',z',z',z',z',z',z',z',z',z',z',z',z',z',z',z',z',z',z',z',z']
abbrev impl_isFactoring.m1 : Array Bool := #[o',z',z',z',z',z',z',z',z',z',z',z',z',z',z',z',z',z',z',z',z',z',z',z',z',z',z',z',z',z',z',z',z',z',z',z',z',z',z',z',z',z',z',z',z',z',z',z',z',z',z',z',z']
abbrev impl_isFactoring.m2 : Array Bool := #[o',o',z',z',z',z',z',z',z',z',z',z',z',z',z',z',z',z',z',z',z',z',z',z',z',z',z',z',z',z',z',z',z',z',z',z',z',z',z',z',z',z',z',z',z',z',z',z',z',z',z',z',z']
abbrev impl_isFactoring.m3 : Array Bool := #[o',o',o',z',z',z',z',z',z',z',z',z',z',z',z',z',z',z',z',z',z',z',z',z',z',z',z',z',z',z',z',z',z',z',z',z',z',z',z',z',z',z',z',z',z',z',z',z',z',z',z',z',z']
abbrev impl_isFactoring.m4 : Array Bool := #[o',o',o',o',z',z',z',z',z',z',z',z',z',z',z',z',z',z',z',z',z',z',z',z',z',z',z',z',z',z',z',z',z',z',z',z',z',z',z',z',z',z',z',z',z',z',z',z',z',z',z',z',z']
abbrev impl_isFactoring.m5 : Array Bool := #[o',o',o',o',o',z',z',z',z',z',z',z',z',z',z',z',z',z',z',z',z',z',z',z',z',z',z',z',z',z',z',z',z',z',z',z',z',z',z',z',z',z',z',z',z',z',z',z',z',z',z',z',z']
abbrev impl_isFactoring.m6 : Array Bool := #[o',o',o',o',o',o',z',z',z',z',z',z',z',z',z',z',z',z',z',z',z',z',z',z',z',z',z',z',z',z',z',z',z',z',z',z',z',z',z',z',z',z',z',z',z',z',z',z',z',z',z',z',z']
abbrev impl_isFactoring.m7 : Array Bool := #[o',o',o',o',o',o',o',z',z',z',z',z',z',z',z',z',z',z',z',z',z',z',z',z',z',z',z',z',z',z',z',z',z',z',z',z',z',z',z',z',z',z',z',z',z',z',z',z',z',z',z',z',z']
abbrev impl_isFactoring.m8 : Array Bool := #[o',o',o',o',o',o',o',o',z',z',z',z',z',z',z',z',z',z',z',z',z',z',z',z',z',z',z',z',z',z',z',z',z',z',z',z',z',z',z',z',z',z',z',z',z',z',z',z',z',z',z',z',z']
abbrev impl_isFactoring.m9 : Array Bool := #[o',o',o',o',o',o',o',o',o',z',z',z',z',z',z',z',z',z',z',z',z',z',z',z',z',z',z',z',z',z',z',z',z',z',z',z',z',z',z',z',z',z',z',z',z',z',z',z',z',z',z',z',z']
abbrev impl_isFactoring.m10 : Array Bool := #[o',o',o',o',o',o',o',o',o',o',z',z',z',z',z',z',z',z',z',z',z',z',z',z',z',z',z',z',z',z',z',z',z',z',z',z',z',z',z',z',z',z',z',z',z',z',z',z',z',z',z',z',z']
abbrev impl_isFactoring.m11 : Array Bool := #[o',o',o',o',o',o',o',o',o',o',o',z',z',z',z',z',z',z',z',z',z',z',z',z',z',z',z',z',z',z',z',z',z',z',z',z',z',z',z',z',z',z',z',z',z',z',z',z',z',z',z',z',z']
abbrev impl_isFactoring.m12 : Array Bool := #[o',o',o',o',o',o',o',o',o',o',o',o',z',z',z',z',z',z',z',z',z',z',z',z',z',z',z',z',z',z',z',z',z',z',z',z',z',z',z',z',z',z',z',z',z',z',z',z',z',z',z',z',z']
abbrev impl_isFactoring.m13 : Array Bool := #[o',o',o',o',o',o',o',o',o',o',o',o',o',z',z',z',z',z',z',z',z',z',z',z',z',z',z',z',z',z',z',z',z',z',z',z',z',z',z',z',z',z',z',z',z',z',z',z',z',z',z',z',z']
abbrev impl_isFactoring.m14 : Array Bool := #[o',o',o',o',o',o',o',o',o',o',o',o',o',o',z',z',z',z',z',z',z',z',z',z',z',z',z',z',z',z',z',z',z',z',z',z',z',z',z',z',z',z',z',z',z',z',z',z',z',z',z',z',z']
abbrev impl_isFactoring.m15 : Array Bool := #[o',o',o',o',o',o',o',o',o',o',o',o',o',o',o',z',z',z',z',z',z',z',z',z',z',z',z',z',z',z',z',z',z',z',z',z',z',z',z',z',z',z',z',z',z',z',z',z',z',z',z',z',z']
abbrev impl_isFactoring.m16 : Array Bool := #[o',o',o',o',o',o',o',o',o',o',o',o',o',o',o',o',z',z',z',z',z',z',z',z',z',z',z',z',z',z',z',z',z',z',z',z',z',z',z',z',z',z',z',z',z',z',z',z',z',z',z',z',z']
abbrev impl_isFactoring.m17 : Array Bool := #[o',o',o',o',o',o',o',o',o',o',o',o',o',o',o',o',o',z',z',z',z',z',z',z',z',z',z',z',z',z',z',z',z',z',z',z',z',z',z',z',z',z',z',z',z',z',z',z',z',z',z',z',z']
abbrev impl_isFactoring.m18 : Array Bool := #[o',o',o',o',o',o',o',o',o',o',o',o',o',o',o',o',o',o',z',z',z',z',z',z',z',z',z',z',z',z',z',z',z',z',z',z',z',z',z',z',z',z',z',z',z',z',z',z',z',z',z',z',z']
abbrev impl_isFactoring.m19 : Array Bool := #[o',o',o',o',o',o',o',o',o',o',o',o',o',o',o',o',o',o',o',z',z',z',z',z',z',z',z',z',z',z',z',z',z',z',z',z',z',z',z',z',z',z',z',z',z',z',z',z',z',z',z',z',z']
abbrev impl_isFactoring.m20 : Array Bool := #[o',o',o',o',o',o',o',o',o',o',o',o',o',o',o',o',o',o',o',o',z',z',z',z',z',z',z',z',z',z',z',z',z',z',z',z',z',z',z',z',z',z',z',z',z',z',z',z',z',z',z',z',z']
abbrev impl_isFactoring.m21 : Array Bool := #[o',o',o',o',o',o',o',o',o',o',o',o',o',o',o',o',o',o',o',o',o',z',z',z',z',z',z',z',z',z',z',z',z',z',z',z',z',z',z',z',z',z',z',z',z',z',z',z',z',z',z',z',z']
abbrev impl_isFactoring.m22 : Array Bool := #[o',o',o',o',o',o',o',o',o',o',o',o',o',o',o',o',o',o',o',o',o',o',z',z',z',z',z',z',z',z',z',z',z',z',z',z',z',z',z',z',z',z',z',z',z',z',z',z',z',z',z',z',z']
abbrev impl_isFactoring.m23 : Array Bool := #[o',o',o',o',o',o',o',o',o',o',o',o',o',o',o',o',o',o',o',o',o',o',o',z',z',z',z',z',z',z',z',z',z',z',z',z',z',z',z',z',z',z',z',z',z',z',z',z',z',z',z',z',z']
abbrev impl_isFactoring.m24 : Array Bool := #[o',o',o',o',o',o',o',o',o',o',o',o',o',o',o',o',o',o',o',o',o',o',o',o',z',z',z',z',z',z',z',z',z',z',z',z',z',z',z',z',z',z',z',z',z',z',z',z',z',z',z',z',z']
abbrev impl_isFactoring.m25 : Array Bool := #[o',o',o',o',o',o',o',o',o',o',o',o',o',o',o',o',o',o',o',o',o',o',o',o',o',z',z',z',z',z',z',z',z',z',z',z',z',z',z',z',z',z',z',z',z',z',z',z',z',z',z',z',z']
abbrev impl_isFactoring.m26 : Array Bool := #[o',o',o',o',o',o',o',o',o',o',o',o',o',o',o',o',o',o',o',o',o',o',o',o',o',o',z',z',z',z',z',z',z',z',z',z',z',z',z',z',z',z',z',z',z',z',z',z',z',z',z',z',z']
abbrev impl_isFactoring.m27 : Array Bool := #[o',o',o',o',o',o',o',o',o',o',o',o',o',o',o',o',o',o',o',o',o',o',o',o',o',o',o',z',z',z',z',z',z',z',z',z',z',z',z',z',z',z',z',z',z',z',z',z',z',z',z',z',z']
abbrev impl_isFactoring.m28 : Array Bool := #[o',o',o',o',o',o',o',o',o',o',o',o',o',o',o',o',o',o',o',o',o',o',o',o',o',o',o',o',z',z',z',z',z',z',z',z',z',z',z',z',z',z',z',z',z',z',z',z',z',z',z',z',z']
abbrev impl_isFactoring.m29 : Array Bool := #[o',o',o',o',o',o',o',o',o',o',o',o',o',o',o',o',o',o',o',o',o',o',o',o',o',o',o',o',o',z',z',z',z',z',z',z',z',z',z',z',z',z',z',z',z',z',z',z',z',z',z',z',z']
abbrev impl_isFactoring.m30 : Array Bool := #[o',o',o',o',o',o',o',o',o',o',o',o',o',o',o',o',o',o',o',o',o',o',o',o',o',o',o',o',o',o',z',z',z',z',z',z',z',z',z',z',z',z',z',z',z',z',z',z',z',z',z',z',z']
abbrev impl_isFactoring.m31 : Array Bool := #[o',o',o',o',o',o',o',o',o',o',o',o',o',o',o',o',o',o',o',o',o',o',o',o',o',o',o',o',o',o',o',z',z',z',z',z',z',z',z',z',z',z',z',z',z',z',z',z',z',z',z',z',z']
abbrev impl_isFactoring.m32 : Array Bool := #[o',o',o',o',o',o',o',o',o',o',o',o',o',o',o',o',o',o',o',o',o',o',o',o',o',o',o',o',o',o',o',o',z',z',z',z',z',z',z',z',z',z',z',z',z',z',z',z',z',z',z',z',z']
abbrev impl_isFactoring.m33 : Array Bool := #[o',o',o',o',o',o',o',o',o',o',o',o',o',o',o',o',o',o',o',o',o',o',o',o',o',o',o',o',o',o',o',o',o',z',z',z',z',z',z',z',z',z',z',z',z',z',z',z',z',z',z',z',z']
abbrev impl_isFactoring.m34 : Array Bool := #[o',o',o',o',o',o',o',o',o',o',o',o',o',o',o',o',o',o',o',o',o',o',o',o',o',o',o',o',o',o',o',o',o',o',z',z',z',z',z',z',z',z',z',z',z',z',z',z',z',z',z',z',z']
abbrev impl_isFactoring.m35 : Array Bool := #[o',o',o',o',o',o',o',o',o',o',o',o',o',o',o',o',o',o',o',o',o',o',o',o',o',o',o',o',o',o',o',o',o',o',o',z',z',z',z',z',z',z',z',z',z',z',z',z',z',z',z',z',z']
abbrev impl_isFactoring.m36 : Array Bool := #[o',o',o',o',o',o',o',o',o',o',o',o',o',o',o',o',o',o',o',o',o',o',o',o',o',o',o',o',o',o',o',o',o',o',o',o',z',z',z',z',z',z',z',z',z',z',z',z',z',z',z',z',z']
abbrev impl_isFactoring.m37 : Array Bool := #[o',o',o',o',o',o',o',o',o',o',o',o',o',o',o',o',o',o',o',o',o',o',o',o',o',o',o',o',o',o',o',o',o',o',o',o',o',z',z',z',z',z',z',z',z',z',z',z',z',z',z',z',z']
abbrev impl_isFactoring.m38 : Array Bool := #[o',o',o',o',o',o',o',o',o',o',o',o',o',o',o',o',o',o',o',o',o',o',o',o',o',o',o',o',o',o',o',o',o',o',o',o',o',o',z',z',z',z',z',z',z',z',z',z',z',z',z',z',z']
abbrev impl_isFactoring.m39 : Array Bool := #[o',o',o',o',o',o',o',o',o',o',o',o',o',o',o',o',o',o',o',o',o',o',o',o',o',o',o',o',o',o',o',o',o',o',o',o',o',o',o',z',z',z',z',z',z',z',z',z',z',z',z',z',z']
abbrev impl_isFactoring.m40 : Array Bool := #[o',o',o',o',o',o',o',o',o',o',o',o',o',o',o',o',o',o',o',o',o',o',o',o',o',o',o',o',o',o',o',o',o',o',o',o',o',o',o',o',z',z',z',z',z',z',z',z',z',z',z',z',z']
abbrev impl_isFactoring.m41 : Array Bool := #[o',o',o',o',o',o',o',o',o',o',o',o',o',o',o',o',o',o',o',o',o',o',o',o',o',o',o',o',o',o',o',o',o',o',o',o',o',o',o',o',o',z',z',z',z',z',z',z',z',z',z',z',z']
abbrev impl_isFactoring.m42 : Array Bool := #[o',o',o',o',o',o',o',o',o',o',o',o',o',o',o',o',o',o',o',o',o',o',o',o',o',o',o',o',o',o',o',o',o',o',o',o',o',o',o',o',o',o',z',z',z',z',z',z',z',z',z',z',z']
abbrev impl_isFactoring.m43 : Array Bool := #[o',o',o',o',o',o',o',o',o',o',o',o',o',o',o',o',o',o',o',o',o',o',o',o',o',o',o',o',o',o',o',o',o',o',o',o',o',o',o',o',o',o',o',z',z',z',z',z',z',z',z',z',z']
abbrev impl_isFactoring.m44 : Array Bool := #[o',o',o',o',o',o',o',o',o',o',o',o',o',o',o',o',o',o',o',o',o',o',o',o',o',o',o',o',o',o',o',o',o',o',o',o',o',o',o',o',o',o',o',o',z',z',z',z',z',z',z',z',z']
abbrev impl_isFactoring.m45 : Array Bool := #[o',o',o',o',o',o',o',o',o',o',o',o',o',o',o',o',o',o',o',o',o',o',o',o',o',o',o',o',o',o',o',o',o',o',o',o',o',o',o',o',o',o',o',o',o',z',z',z',z',z',z',z',z']
abbrev impl_isFactoring.m46 : Array Bool := #[o',o',o',o',o',o',o',o',o',o',o',o',o',o',o',o',o',o',o',o',o',o',o',o',o',o',o',o',o',o',o',o',o',o',o',o',o',o',o',o',o',o',o',o',o',o',z',z',z',z',z',z',z']
abbrev impl_isFactoring.m47 : Array Bool := #[o',o',o',o',o',o',o',o',o',o',o',o',o',o',o',o',o',o',o',o',o',o',o',o',o',o',o',o',o',o',o',o',o',o',o',o',o',o',o',o',o',o',o',o',o',o',o',z',z',z',z',z',z']
abbrev impl_isFactoring.m48 : Array Bool := #[o',o',o',o',o',o',o',o',o',o',o',o',o',o',o',o',o',o',o',o',o',o',o',o',o',o',o',o',o',o',o',o',o',o',o',o',o',o',o',o',o',o',o',o',o',o',o',o',z',z',z',z',z']
abbrev impl_isFactoring.m49 : Array Bool := #[o',o',o',o',o',o',o',o',o',o',o',o',o',o',o',o',o',o',o',o',o',o',o',o',o',o',o',o',o',o',o',o',o',o',o',o',o',o',o',o',o',o',o',o',o',o',o',o',o',z',z',z',z']
abbrev impl_isFactoring.m50 : Array Bool := #[o',o',o',o',o',o',o',o',o',o',o',o',o',o',o',o',o',o',o',o',o',o',o',o',o',o',o',o',o',o',o',o',o',o',o',o',o',o',o',o',o',o',o',o',o',o',o',o',o',o',z',z',z']
abbrev impl_isFactoring.m51 : Array Bool := #[o',o',o',o',o',o',o',o',o',o',o',o',o',o',o',o',o',o',o',o',o',o',o',o',o',o',o',o',o',o',o',o',o',o',o',o',o',o',o',o',o',o',o',o',o',o',o',o',o',o',o',z',z']
abbrev impl_isFactoring.m52 : Array Bool := #[o',o',o',o',o',o',o',o',o',o',o',o',o',o',o',o',o',o',o',o',o',o',o',o',o',o',o',o',o',o',o',o',o',o',o',o',o',o',o',o',o',o',o',o',o',o',o',o',o',o',o',o',z']
abbrev impl_isFactoring.m53 : Array Bool := #[o',o',o',o',o',o',o',o',o',o',o',o',o',o',o',o',o',o',o',o',o',o',o',o',o',o',o',o',o',o',o',o',o',o',o',o',o',o',o',o',o',o',o',o',o',o',o',o',o',o',o',o',o']
def impl_isFactoring.l0 : Nat → ByteArray → Int → Int → Int → Int → List Int → Int → Int → Option (Bool)
 | 0, _, _, _, _, _, _, _, _ => none
 | k + 1, x0, x1, x2, x7, x9, x23, x24, x25 => if x25 < x24 then (if 0 ≤ x25 then (if x25 < (x23.length : Int) then (if (rd x23 x25) = 0 then (impl_isFactoring.l0 k x0 x1 x2 x7 (wrap64 (x9 + 1)) x23 x24 (wrap64 (x25 + 1))) else (impl_isFactoring.l0 k x0 x1 x2 x7 x9 x23 x24 (wrap64 (x25 + 1)))) else (none)) else (none)) else (if x9 ≤ 1 then (if 0 ≤ x7 then (if x7 ≤ (wrap64 (x7 + x1)) then (if (wrap64 (x7 + x1)) ≤ (x0.size : Int) then (if 0 ≤ x1 then (if x1 ≤ (x0.size : Int) then ((impl_backWord.f (x0.extract 0 (x1 : Int).toNat)).bind fun t155 => (if (x0.extract (x7 : Int).toNat ((wrap64 (x7 + x1)) : Int).toNat).toList = t155.toList then (if 0 ≤ (wrap64 (x7 + x1)) then (if (wrap64 (x7 + x1)) ≤ (wrap64 ((wrap64 (x7 + x1)) + x2)) then (if (wrap64 ((wrap64 (x7 + x1)) + x2)) ≤ (x0.size : Int) then (if x1 ≤ (wrap64 (x1 + x2)) then (if (wrap64 (x1 + x2)) ≤ (x0.size : Int) then ((impl_backWord.f (x0.extract (x1 : Int).toNat ((wrap64 (x1 + x2)) : Int).toNat)).bind fun t156 => (if (x0.extract ((wrap64 (x7 + x1)) : Int).toNat ((wrap64 ((wrap64 (x7 + x1)) + x2)) : Int).toNat).toList = t156.toList then (if 0 ≤ (wrap64 ((wrap64 (x7 + x1)) + x2)) then (if 0 ≤ (wrap64 (x1 + x2)) then (if (wrap64 (x1 + x2)) ≤ x7 then (if x7 ≤ (x0.size : Int) then ((impl_backWord.f (x0.extract ((wrap64 (x1 + x2)) : Int).toNat (x7 : Int).toNat)).bind fun t157 => (some ((x0.extract ((wrap64 ((wrap64 (x7 + x1)) + x2)) : Int).toNat x0.size).toList == t157.toList))) else (none)) else (none)) else (none)) else (none)) else (some false))) else (none)) else (none)) else (none)) else (none)) else (none)) else (some false))) else (none)) else (none)) else (none)) else (none)) else (none)) else (some false))
def impl_isFactoring.f (k : Nat) (a0 : ByteArray) (a1 : Int) (a2 : Int) : Option (Bool) := (some (([a1, a2, wrap64 ((wrap64 ((wrap64 ((a0.size : Int) / 2)) - a1)) - a2)] : List Int) : List Int)).bind fun y151 => (impl_isFactoring.l0 k a0 a1 a2 (wrap64 ((a0.size : Int) / 2)) 0 y151 (y151.length : Int) 0)
theorem impl_isFactoring.mono_l : ∀ k, (∀ y0 y1 y2 y3 y4 y5 y6 y7, LeO (impl_isFactoring.l0 k y0 y1 y2 y3 y4 y5 y6 y7) (impl_isFactoring.l0 (k + 1) y0 y1 y2 y3 y4 y5 y6 y7))
 | 0 => fun _ _ _ _ _ _ _ _ r h => by simp [impl_isFactoring.l0] at h
 | k + 1 => by
  have ih0 := impl_isFactoring.mono_l k
  ·intro y0 y1 y2 y3 y4 y5 y6 y7
   unfold impl_isFactoring.l0
   repeat' first
   | (with_reducible exact ih0 _ _ _ _ _ _ _ _)
   | (with_reducible exact LeO.refl _)
   | (with_reducible exact LeO.none _)
   | (with_reducible refine LeO.ite ?_ ?_)
   | (with_reducible refine LeO.bind ?_ (fun _ => ?_))
   | exact ih0 _ _ _ _ _ _ _ _
   | exact LeO.none _
   | refine LeO.ite ?_ ?_
   | refine LeO.bind ?_ (fun _ => ?_)
theorem impl_isFactoring.mono : ∀ a0 a1 a2 k, LeO (impl_isFactoring.f k a0 a1 a2) (impl_isFactoring.f (k + 1) a0 a1 a2) := by
 intro a0 a1 a2 k
 have ih0 := impl_isFactoring.mono_l k
 unfold impl_isFactoring.f
 repeat' first
   | (with_reducible exact ih0 _ _ _ _ _ _ _ _)
   | (with_reducible exact LeO.refl _)
   | (with_reducible exact LeO.none _)
   | (with_reducible refine LeO.ite ?_ ?_)
   | (with_reducible refine LeO.bind ?_ (fun _ => ?_))
   | exact ih0 _ _ _ _ _ _ _ _
   | exact LeO.none _
   | refine LeO.ite ?_ ?_
   | refine LeO.bind ?_ (fun _ => ?_)
def impl_isFactoring.T10 : Bool × List (List Nat × List Nat) := (true, [([], []), ([0], [0]), ([1], [1]), ([2], [2]), ([2], [2]), ([2], [2]), ([2], [2]), ([5, 6, 2], [2, 5, 6]), ([3, 4, 7, 2], [2, 3, 4, 7]), ([2], [2]), ([2], [2]), ([9, 10, 2], [2, 9, 10]), ([11, 2, 2], [2, 11]), ([8, 12, 2], [2, 8, 12]), ([2, 13], [2, 13]), ([14, 12], [14]), ([15], [15]), ([15], [15]), ([15], [15]), ([17, 18, 15], [15, 17, 18]), ([15], [15]), ([15], [15]), ([20, 21, 15], [15, 20, 21]), ([15], [15]), ([22, 23, 15], [15, 22, 23]), ([16, 19, 24, 15], [15, 16, 19, 24]), ([15], [15]), ([15], [15]), ([15], [15]), ([15], [15]), ([28, 29, 15], [15, 28, 29]), ([26, 27, 30, 15], [15, 26, 27, 30]), ([31, 15, 15], [15, 31]), ([25, 32, 15], [15, 25, 32]), ([15, 33], [15, 33]), ([34, 32], [34]), ([35], [35]), ([35], [35]), ([35], [35]), ([37, 38, 35], [35, 37, 38]), ([35], [35]), ([39, 40, 35], [35, 39, 40]), ([36, 41, 35], [35, 36, 41]), ([35], [35]), ([35], [35]), ([35], [35]), ([44, 45, 35], [35, 44, 45]), ([35], [35]), ([43, 46, 47, 35], [35, 43, 46, 47]), ([48, 35, 35], [35, 48]), ([42, 49, 35], [35, 42, 49]), ([35, 50], [35, 50]), ([51, 49, 0, 1, 2, 3, 4, 5, 6, 7, 8, 9, 10, 11, 12, 13, 14, 15, 16, 17, 18, 19, 20, 21, 22, 23, 24, 25, 26, 27, 28, 29, 30, 31, 32, 33, 34, 35, 36, 37, 38, 39, 40, 41, 42, 43, 44, 45, 46, 47, 48, 49, 50, 51], [51])])
def impl_isFactoring.B10 : List Nat := [0, 1, 3, 7, 7, 7, 7, 103, 255, 7, 7, 1543, 3591, 8191, 16383, 32767, 65535, 65535, 65535, 458751, 65535, 65535, 3211263, 65535, 15794175, 33554431, 65535, 65535, 65535, 65535, 805371903, 2080440319, 4227923967, 8589934591, 17179869183, 34359738367, 68719476735, 68719476735, 68719476735, 481036337151, 68719476735, 2130303778815, 4398046511103, 68719476735, 68719476735, 68719476735, 52845277609983, 68719476735, 272747603165183, 554222579875839, 1125899906842623, 2251799813685247, 4503599627370495]
theorem impl_isFactoring.tab10 : rtab .any (opsOf Tryd.f41 10) = impl_isFactoring.T10 := by kernel_rfl
theorem impl_isFactoring.bits10 : waitsOk impl_isFactoring.T10.2 impl_isFactoring.B10 = true := by kernel_rfl
set_option maxHeartbeats 8000000 in
set_option maxRecDepth 100000 in
theorem impl_isFactoring.calls (k : Nat) (a0 : ByteArray) (a1 : Int) (a2 : Int) (r : Bool) (w : World) (h : impl_isFactoring.f k a0 a1 a2 = some r) :
  Calls Tryd.prog 41 #[.string a0, .int .i64 a1, .int .i64 a2] w fun e w' => e = .returned (.bool r) ∧ Below w.heap.size w w' := by
 have HB := am (Below.refl w.heap.size w)
 have H : ((some (([a1, a2, wrap64 ((wrap64 ((wrap64 ((a0.size : Int) / 2)) - a1)) - a2)] : List Int) : List Int)).bind fun y151 => (impl_isFactoring.l0 k a0 a1 a2 (wrap64 ((a0.size : Int) / 2)) 0 y151 (y151.length : Int) 0)) = some r := h
 clear h
 obtain ⟨y151, hy151⟩ : ∃ y_ : List Int, y_ = (([a1, a2, wrap64 ((wrap64 ((wrap64 ((a0.size : Int) / 2)) - a1)) - a2)] : List Int)) := ⟨_, rfl⟩
 replace H : (impl_isFactoring.l0 k a0 a1 a2 (wrap64 ((a0.size : Int) / 2)) 0 y151 (y151.length : Int) 0) = some r := by first | (rw [hy151]; with_reducible exact H) | (have H2_ := (Option.bind_some _ _).symm.trans H; rw [hy151]; with_reducible exact H2_) | (have H2_ := (Option.bind_some _ _).symm.trans H; with_reducible exact H2_) | with_reducible exact H | (rw [hy151]; exact H) | exact H
 have Ny151 := am hy151
 clear hy151
 have H' := am H
 clear H
 go_enter Tryd.func41, Tryd.ntmps41
 go_wp2_with (first | ((with_reducible refine gate_dst (N := 23) rfl ?_); refine Kd.R_lit (Kd.int .i64) _ 2 ?hg (N := 23) ?hd (xs := ([a1, a2, wrap64 ((wrap64 ((wrap64 ((a0.size : Int) / 2)) - a1)) - a2)] : List Int)) (inner := [.int .i64 a1, .int .i64 a2, .int .i64 (wrap64 ((wrap64 ((wrap64 ((a0.size : Int) / 2)) - a1)) - a2))]) (ok := fun _ => True) (okp := fun _ => True) ?hr ?hp (fun _ hk => hk) trivial (Below.refl _ _) (Nat.le_refl _) (by simp) ?_; (case hd => rfl); (case hg => rfl); (case hr => first | (go_simp; done) | (go_simp; rfl)); (case hp => exact (Reps.one (show Kd.M (Kd.int .i64) _ _ _ a1 [.int .i64 a1] from rfl) (Reps.one (show Kd.M (Kd.int .i64) _ _ _ a2 [.int .i64 a2] from rfl) (Reps.one (show Kd.M (Kd.int .i64) _ _ _ (wrap64 ((wrap64 ((wrap64 ((a0.size : Int) / 2)) - a1)) - a2)) [.int .i64 (wrap64 ((wrap64 ((wrap64 ((a0.size : Int) / 2)) - a1)) - a2))] from rfl) (Reps.none _ _))))); intro v152 w4 ho5 hb hg_ hnew_; clear hg_ hnew_; (first | rw [← Ny151.out] at ho5 | (simp only [Int.reduceToNat] at ho5; rw [← Ny151.out] at ho5)); have n0_ := am (Kd.R_lower ho5 (Bb5 zB)); have n1_ := am (Bb6 zB hb); clear HB; have HO153 := n0_; have HB := n1_; clear n0_ n1_; clear hb ho5; obtain ⟨Ao6, co6, eo6⟩ := Kd.R_slice HO153.out; subst eo6))
 go_loopg [9, 25] k (fun kq v9 v25 w' => ∃ (x9_1 : Int) (x25_1 : Int), v9 = .int .i64 x9_1 ∧ v25 = .int .i64 x25_1 ∧ Aside0 (impl_isFactoring.l0 kq a0 a1 a2 (wrap64 ((a0.size : Int) / 2)) x9_1 y151 (y151.length : Int) x25_1 = some r) ∧ Aside0 (kq ≤ k) ∧ Aside0 (Kd.R (Kd.int .i64) 2 w' w.heap.size (fun _ => True) (.slice Ao6 y151.length co6) y151) ∧ Aside0 (Below w.heap.size w w'))
 case atStart => exact ⟨(0), (0), zS, zS, H', ⟨Nat.le_refl _⟩, ⟨zR HO153⟩, ⟨zB⟩⟩
 case round =>
  clear H'
  try clear p2
  try clear c4
  try clear p6
  obtain ⟨x9_1, x25_1, rfl, rfl, HA, HK1, HO_23, HB⟩ := hrel
  cases gk with
  | zero => exact absurd HA.out (by simp [impl_isFactoring.l0])
  | succ k1 =>
   have H := HA.out
   clear HA
   simp only [impl_isFactoring.l0] at H
   by_cases c7 : x25_1 < (y151.length : Int)
   ·rw [if_pos c7] at H
    have c7b0 : decide (x25_1 < (y151.length : Int)) = true := decide_eq_true c7
    clear c7
    by_cases c8 : 0 ≤ x25_1
    rotate_left
    ·rw [if_neg c8] at H
     exact absurd H (by simp)
    rw [if_pos c8] at H
    have c8b0 : decide (0 ≤ x25_1) = true := decide_eq_true c8
    clear c8
    by_cases c9 : x25_1 < (y151.length : Int)
    rotate_left
    ·rw [if_neg c9] at H
     exact absurd H (by simp)
    rw [if_pos c9] at H
    have c9b0 : decide (x25_1 < (y151.length : Int)) = true := decide_eq_true c9
    clear c9
    by_cases c10 : (rd y151 x25_1) = 0
    ·rw [if_pos c10] at H
     have c10b0 : ((rd y151 x25_1) == 0) = true := beq_iff_eq.mpr c10
     have c10b1 : ((rd y151 x25_1) != 0) = false := bne_eq_false_iff_eq.mpr c10
     clear c10
     have H' := am H
     clear H
     have p154 : 0 ≤ (x25_1 : Int) := zD
     have q154 : x25_1 < (y151.length : Int) := zD
     obtain ⟨ad154, e154, hx154_0⟩ := Kd.at_int (Kd.R_reads' HO_23.out).2.2 x25_1 p154 q154
     cases e154
     replace p154 := eq_true p154
     replace q154 := eq_true q154
     go_wp2
     go_roundg k1
     case measure => have := HK1.out; omega
     case rel => exact ⟨(wrap64 (x9_1 + 1)), (wrap64 (x25_1 + 1)), zS, zS, H', ⟨by have := HK1.out; omega⟩, ⟨zR HO_23⟩, ⟨zB⟩⟩
    rw [if_neg c10] at H
    have c10b0 : ((rd y151 x25_1) == 0) = false := beq_eq_false_iff_ne.mpr c10
    have c10b1 : ((rd y151 x25_1) != 0) = true := bne_iff_ne.mpr c10
    have H' := am H
    clear H
    have p154 : 0 ≤ (x25_1 : Int) := zD
    have q154 : x25_1 < (y151.length : Int) := zD
    obtain ⟨ad154, e154, hx154_0⟩ := Kd.at_int (Kd.R_reads' HO_23.out).2.2 x25_1 p154 q154
    cases e154
    replace p154 := eq_true p154
    replace q154 := eq_true q154
    go_wp2
    go_roundg k1
    case measure => have := HK1.out; omega
    case rel => exact ⟨(x9_1), (wrap64 (x25_1 + 1)), zS, zS, H', ⟨by have := HK1.out; omega⟩, ⟨zR HO_23⟩, ⟨zB⟩⟩
   rw [if_neg c7] at H
   have c7b0 : decide (x25_1 < (y151.length : Int)) = false := decide_eq_false c7
   clear c7
   by_cases c11 : x9_1 ≤ 1
   rotate_left
   ·rw [if_neg c11] at H
    have c11b0 : decide (x9_1 ≤ 1) = false := decide_eq_false c11
    clear c11
    obtain rfl := oi H
    try go_wp2
    have n0_ := am (Kd.R_drew HO_23.out)
    have n1_ := am (Bb3 HB.out)
    clear HO_23
    clear HB
    have HO_23 := n0_
    have HB := n1_
    clear n0_ n1_
    refine start_ (n := 53) (S := fun w' => True) (ds := []) impl_isFactoring.m0 (by kernel_rfl) rfl rfl trivial (fun hHeld => ?_); refine with_tabW impl_isFactoring.tab10 impl_isFactoring.bits10 (fun HT_ HW_ => ?_)
    generalize wr.drew = w46 at HO_23 HB hHeld ⊢
    refine pure_ (i := 0) (N := some 34) (v := ?_) (a' := ?_) impl_isFactoring.m1 rfl rfl zA (fun _ _ _ h => h) (Or.inl ⟨by rfl, ?_⟩) ?_ ?_
    rotate_left
    ·intro w'
     go_simp
     with_reducible rfl
    rotate_left
    ·exact zP
    refine pure_ (i := 1) (N := some 35) (v := ?_) (a' := ?_) impl_isFactoring.m2 rfl rfl zA (fun _ _ _ h => h) (Or.inl ⟨by rfl, ?_⟩) ?_ ?_
    rotate_left
    ·intro w'
     go_simp
     with_reducible rfl
    rotate_left
    ·exact zP
    refine pure_ (i := 2) (N := some 36) (v := ?_) (a' := ?_) impl_isFactoring.m3 rfl rfl zA (fun _ _ _ h => h) (Or.inl ⟨by rfl, ?_⟩) ?_ ?_
    rotate_left
    ·intro w'
     go_simp
     with_reducible rfl
    rotate_left
    ·exact zP
    refine pure_ (i := 3) (N := some 37) (v := undef) (a' := ?_) impl_isFactoring.m4 rfl rfl zA (fun _ _ _ h => h) (Or.inr ⟨by rfl, rfl⟩) ?_ ?_
    rotate_left
    ·exact zP
    refine pure_ (i := 4) (N := some 38) (v := undef) (a' := ?_) impl_isFactoring.m5 rfl rfl zA (fun _ _ _ h => h) (Or.inr ⟨by rfl, rfl⟩) ?_ ?_
    rotate_left
    ·exact zP
    refine pure_ (i := 5) (N := some 39) (v := undef) (a' := ?_) impl_isFactoring.m6 rfl rfl zA (fun _ _ _ h => h) (Or.inr ⟨by rfl, rfl⟩) ?_ ?_
    rotate_left
    ·exact zP
    refine pure_ (i := 6) (N := some 40) (v := undef) (a' := ?_) impl_isFactoring.m7 rfl rfl zA (fun _ _ _ h => h) (Or.inr ⟨by rfl, rfl⟩) ?_ ?_
    rotate_left
    ·exact zP
    refine pure_ (i := 7) (N := some 41) (v := undef) (a' := ?_) impl_isFactoring.m8 rfl rfl zA (fun _ _ _ h => h) (Or.inr ⟨by rfl, rfl⟩) ?_ ?_
    rotate_left
    ·exact zP
    refine pure_ (i := 8) (N := some 42) (v := undef) (a' := ?_) impl_isFactoring.m9 rfl rfl zA (fun _ _ _ h => h) (Or.inr ⟨by rfl, rfl⟩) ?_ ?_
    rotate_left
    ·exact zP
    refine pure_ (i := 9) (N := some 43) (v := undef) (a' := ?_) impl_isFactoring.m10 rfl rfl zA (fun _ _ _ h => h) (Or.inr ⟨by rfl, rfl⟩) ?_ ?_
    rotate_left
    ·exact zP
    refine pure_ (i := 10) (N := some 44) (v := undef) (a' := ?_) impl_isFactoring.m11 rfl rfl zA (fun _ _ _ h => h) (Or.inr ⟨by rfl, rfl⟩) ?_ ?_
    rotate_left
    ·exact zP
    refine pure_ (i := 11) (N := some 45) (v := undef) (a' := ?_) impl_isFactoring.m12 rfl rfl zA (fun _ _ _ h => h) (Or.inr ⟨by rfl, rfl⟩) ?_ ?_
    rotate_left
    ·exact zP
    refine pure_ (i := 12) (N := some 46) (v := undef) (a' := ?_) impl_isFactoring.m13 rfl rfl zA (fun _ _ _ h => h) (Or.inr ⟨by rfl, rfl⟩) ?_ ?_
    rotate_left
    ·exact zP
    refine pure_ (i := 13) (N := some 47) (v := undef) (a' := ?_) impl_isFactoring.m14 rfl rfl zA (fun _ _ _ h => h) (Or.inr ⟨by rfl, rfl⟩) ?_ ?_
    rotate_left
    ·exact zP
    refine pure_ (i := 14) (N := some 48) (v := ?_) (a' := ?_) impl_isFactoring.m15 rfl rfl zA (fun _ _ _ h => h) (Or.inl ⟨by rfl, ?_⟩) ?_ ?_
    rotate_left
    ·intro w'
     go_simp
     with_reducible rfl
    rotate_left
    ·exact zP
    refine pure_ (i := 15) (N := some 49) (v := ?_) (a' := ?_) impl_isFactoring.m16 rfl rfl zA (fun _ _ _ h => h) (Or.inl ⟨by rfl, ?_⟩) ?_ ?_
    rotate_left
    ·intro w'
     go_simp
     with_reducible rfl
    rotate_left
    ·exact zP
    refine pure_ (i := 16) (N := some 50) (v := undef) (a' := ?_) impl_isFactoring.m17 rfl rfl zA (fun _ _ _ h => h) (Or.inr ⟨by rfl, rfl⟩) ?_ ?_
    rotate_left
    ·exact zP
    refine pure_ (i := 17) (N := some 51) (v := undef) (a' := ?_) impl_isFactoring.m18 rfl rfl zA (fun _ _ _ h => h) (Or.inr ⟨by rfl, rfl⟩) ?_ ?_
    rotate_left
    ·exact zP
    refine pure_ (i := 18) (N := some 52) (v := undef) (a' := ?_) impl_isFactoring.m19 rfl rfl zA (fun _ _ _ h => h) (Or.inr ⟨by rfl, rfl⟩) ?_ ?_
    rotate_left
    ·exact zP
    refine pure_ (i := 19) (N := some 53) (v := undef) (a' := ?_) impl_isFactoring.m20 rfl rfl zA (fun _ _ _ h => h) (Or.inr ⟨by rfl, rfl⟩) ?_ ?_
    rotate_left
    ·exact zP
    refine pure_ (i := 20) (N := some 54) (v := undef) (a' := ?_) impl_isFactoring.m21 rfl rfl zA (fun _ _ _ h => h) (Or.inr ⟨by rfl, rfl⟩) ?_ ?_
    rotate_left
    ·exact zP
    refine pure_ (i := 21) (N := some 55) (v := undef) (a' := ?_) impl_isFactoring.m22 rfl rfl zA (fun _ _ _ h => h) (Or.inr ⟨by rfl, rfl⟩) ?_ ?_
    rotate_left
    ·exact zP
    refine pure_ (i := 22) (N := some 56) (v := undef) (a' := ?_) impl_isFactoring.m23 rfl rfl zA (fun _ _ _ h => h) (Or.inr ⟨by rfl, rfl⟩) ?_ ?_
    rotate_left
    ·exact zP
    refine pure_ (i := 23) (N := some 57) (v := undef) (a' := ?_) impl_isFactoring.m24 rfl rfl zA (fun _ _ _ h => h) (Or.inr ⟨by rfl, rfl⟩) ?_ ?_
    rotate_left
    ·exact zP
    refine pure_ (i := 24) (N := some 58) (v := undef) (a' := ?_) impl_isFactoring.m25 rfl rfl zA (fun _ _ _ h => h) (Or.inr ⟨by rfl, rfl⟩) ?_ ?_
    rotate_left
    ·exact zP
    refine pure_ (i := 25) (N := some 59) (v := undef) (a' := ?_) impl_isFactoring.m26 rfl rfl zA (fun _ _ _ h => h) (Or.inr ⟨by rfl, rfl⟩) ?_ ?_
    rotate_left
    ·exact zP
    refine pure_ (i := 26) (N := some 60) (v := undef) (a' := ?_) impl_isFactoring.m27 rfl rfl zA (fun _ _ _ h => h) (Or.inr ⟨by rfl, rfl⟩) ?_ ?_
    rotate_left
    ·exact zP
    refine pure_ (i := 27) (N := some 61) (v := undef) (a' := ?_) impl_isFactoring.m28 rfl rfl zA (fun _ _ _ h => h) (Or.inr ⟨by rfl, rfl⟩) ?_ ?_
    rotate_left
    ·exact zP
    refine pure_ (i := 28) (N := some 62) (v := undef) (a' := ?_) impl_isFactoring.m29 rfl rfl zA (fun _ _ _ h => h) (Or.inr ⟨by rfl, rfl⟩) ?_ ?_
    rotate_left
    ·exact zP
    refine pure_ (i := 29) (N := some 63) (v := undef) (a' := ?_) impl_isFactoring.m30 rfl rfl zA (fun _ _ _ h => h) (Or.inr ⟨by rfl, rfl⟩) ?_ ?_
    rotate_left
    ·exact zP
    refine pure_ (i := 30) (N := some 64) (v := undef) (a' := ?_) impl_isFactoring.m31 rfl rfl zA (fun _ _ _ h => h) (Or.inr ⟨by rfl, rfl⟩) ?_ ?_
    rotate_left
    ·exact zP
    refine pure_ (i := 31) (N := some 65) (v := undef) (a' := ?_) impl_isFactoring.m32 rfl rfl zA (fun _ _ _ h => h) (Or.inr ⟨by rfl, rfl⟩) ?_ ?_
    rotate_left
    ·exact zP
    refine pure_ (i := 32) (N := some 66) (v := undef) (a' := ?_) impl_isFactoring.m33 rfl rfl zA (fun _ _ _ h => h) (Or.inr ⟨by rfl, rfl⟩) ?_ ?_
    rotate_left
    ·exact zP
    refine pure_ (i := 33) (N := some 67) (v := undef) (a' := ?_) impl_isFactoring.m34 rfl rfl zA (fun _ _ _ h => h) (Or.inr ⟨by rfl, rfl⟩) ?_ ?_
    rotate_left
    ·exact zP
    refine pure_ (i := 34) (N := some 68) (v := ?_) (a' := ?_) impl_isFactoring.m35 rfl rfl zA (fun _ _ _ h => h) (Or.inl ⟨by rfl, ?_⟩) ?_ ?_
    rotate_left
    ·intro w'
     go_simp
     with_reducible rfl
    rotate_left
    ·exact zP
    refine pure_ (i := 35) (N := some 69) (v := ?_) (a' := ?_) impl_isFactoring.m36 rfl rfl zA (fun _ _ _ h => h) (Or.inl ⟨by rfl, ?_⟩) ?_ ?_
    rotate_left
    ·intro w'
     go_simp
     with_reducible rfl
    rotate_left
    ·exact zP
    refine pure_ (i := 36) (N := some 70) (v := undef) (a' := ?_) impl_isFactoring.m37 rfl rfl zA (fun _ _ _ h => h) (Or.inr ⟨by rfl, rfl⟩) ?_ ?_
    rotate_left
    ·exact zP
    refine pure_ (i := 37) (N := some 71) (v := undef) (a' := ?_) impl_isFactoring.m38 rfl rfl zA (fun _ _ _ h => h) (Or.inr ⟨by rfl, rfl⟩) ?_ ?_
    rotate_left
    ·exact zP
    refine pure_ (i := 38) (N := some 72) (v := undef) (a' := ?_) impl_isFactoring.m39 rfl rfl zA (fun _ _ _ h => h) (Or.inr ⟨by rfl, rfl⟩) ?_ ?_
    rotate_left
    ·exact zP
    refine pure_ (i := 39) (N := some 73) (v := undef) (a' := ?_) impl_isFactoring.m40 rfl rfl zA (fun _ _ _ h => h) (Or.inr ⟨by rfl, rfl⟩) ?_ ?_
    rotate_left
    ·exact zP
    refine pure_ (i := 40) (N := some 74) (v := undef) (a' := ?_) impl_isFactoring.m41 rfl rfl zA (fun _ _ _ h => h) (Or.inr ⟨by rfl, rfl⟩) ?_ ?_
    rotate_left
    ·exact zP
    refine pure_ (i := 41) (N := some 75) (v := undef) (a' := ?_) impl_isFactoring.m42 rfl rfl zA (fun _ _ _ h => h) (Or.inr ⟨by rfl, rfl⟩) ?_ ?_
    rotate_left
    ·exact zP
    refine pure_ (i := 42) (N := some 76) (v := undef) (a' := ?_) impl_isFactoring.m43 rfl rfl zA (fun _ _ _ h => h) (Or.inr ⟨by rfl, rfl⟩) ?_ ?_
    rotate_left
    ·exact zP
    refine pure_ (i := 43) (N := some 77) (v := undef) (a' := ?_) impl_isFactoring.m44 rfl rfl zA (fun _ _ _ h => h) (Or.inr ⟨by rfl, rfl⟩) ?_ ?_
    rotate_left
    ·exact zP
    refine pure_ (i := 44) (N := some 78) (v := undef) (a' := ?_) impl_isFactoring.m45 rfl rfl zA (fun _ _ _ h => h) (Or.inr ⟨by rfl, rfl⟩) ?_ ?_
    rotate_left
    ·exact zP
    refine pure_ (i := 45) (N := some 79) (v := undef) (a' := ?_) impl_isFactoring.m46 rfl rfl zA (fun _ _ _ h => h) (Or.inr ⟨by rfl, rfl⟩) ?_ ?_
    rotate_left
    ·exact zP
    refine pure_ (i := 46) (N := some 80) (v := undef) (a' := ?_) impl_isFactoring.m47 rfl rfl zA (fun _ _ _ h => h) (Or.inr ⟨by rfl, rfl⟩) ?_ ?_
    rotate_left
    ·exact zP
    refine pure_ (i := 47) (N := some 81) (v := undef) (a' := ?_) impl_isFactoring.m48 rfl rfl zA (fun _ _ _ h => h) (Or.inr ⟨by rfl, rfl⟩) ?_ ?_
    rotate_left
    ·exact zP
    refine pure_ (i := 48) (N := some 82) (v := undef) (a' := ?_) impl_isFactoring.m49 rfl rfl zA (fun _ _ _ h => h) (Or.inr ⟨by rfl, rfl⟩) ?_ ?_
    rotate_left
    ·exact zP
    refine pure_ (i := 49) (N := some 83) (v := undef) (a' := ?_) impl_isFactoring.m50 rfl rfl zA (fun _ _ _ h => h) (Or.inr ⟨by rfl, rfl⟩) ?_ ?_
    rotate_left
    ·exact zP
    refine pure_ (i := 50) (N := some 84) (v := undef) (a' := ?_) impl_isFactoring.m51 rfl rfl zA (fun _ _ _ h => h) (Or.inr ⟨by rfl, rfl⟩) ?_ ?_
    rotate_left
    ·exact zP
    refine pure_ (i := 51) (N := some 85) (v := ?_) (a' := ?_) impl_isFactoring.m52 rfl rfl zA (fun _ _ _ h => h) (Or.inl ⟨by rfl, ?_⟩) ?_ ?_
    rotate_left
    ·intro w'
     go_simp
     with_reducible rfl
    rotate_left
    ·exact zP
    refine pure_ (i := 52) (N := some 6) (v := ?_) (a' := ?_) impl_isFactoring.m53 rfl rfl zA (fun _ _ _ h => h) (Or.inl ⟨by rfl, ?_⟩) ?_ ?_
    rotate_left
    ·intro w'
     go_simp
     with_reducible rfl
    rotate_left
    ·exact zP
    refine done_ (done_of HT_.out (by kernel_rfl)) ?_
    try go_wp2
    go_ret
    exact ⟨zE, zB⟩
   rw [if_pos c11] at H
   have c11b0 : decide (x9_1 ≤ 1) = true := decide_eq_true c11
   clear c11
   obtain ⟨ji12, hji12⟩ : ∃ j_ : Int, (wrap64 ((a0.size : Int) / 2)) = j_ := ⟨_, rfl⟩
   replace H : (if 0 ≤ (ji12) then (if (ji12) ≤ (wrap64 ((ji12) + a1)) then (if (wrap64 ((ji12) + a1)) ≤ (a0.size : Int) then (if 0 ≤ a1 then (if a1 ≤ (a0.size : Int) then ((impl_backWord.f (a0.extract 0 (a1 : Int).toNat)).bind fun t155 => (if (a0.extract ((ji12) : Int).toNat ((wrap64 ((ji12) + a1)) : Int).toNat).toList = t155.toList then (if 0 ≤ (wrap64 ((ji12) + a1)) then (if (wrap64 ((ji12) + a1)) ≤ (wrap64 ((wrap64 ((ji12) + a1)) + a2)) then (if (wrap64 ((wrap64 ((ji12) + a1)) + a2)) ≤ (a0.size : Int) then (if a1 ≤ (wrap64 (a1 + a2)) then (if (wrap64 (a1 + a2)) ≤ (a0.size : Int) then ((impl_backWord.f (a0.extract (a1 : Int).toNat ((wrap64 (a1 + a2)) : Int).toNat)).bind fun t156 => (if (a0.extract ((wrap64 ((ji12) + a1)) : Int).toNat ((wrap64 ((wrap64 ((ji12) + a1)) + a2)) : Int).toNat).toList = t156.toList then (if 0 ≤ (wrap64 ((wrap64 ((ji12) + a1)) + a2)) then (if 0 ≤ (wrap64 (a1 + a2)) then (if (wrap64 (a1 + a2)) ≤ (ji12) then (if (ji12) ≤ (a0.size : Int) then ((impl_backWord.f (a0.extract ((wrap64 (a1 + a2)) : Int).toNat ((ji12) : Int).toNat)).bind fun t157 => (some ((a0.extract ((wrap64 ((wrap64 ((ji12) + a1)) + a2)) : Int).toNat a0.size).toList == t157.toList))) else (none)) else (none)) else (none)) else (none)) else (some false))) else (none)) else (none)) else (none)) else (none)) else (none)) else (some false))) else (none)) else (none)) else (none)) else (none)) else (none)) = some r := by first | (rw [hji12] at H; exact H) | (simp only [hji12] at H ⊢; exact H)
   have hji12w : (IntKind.i64.wrap ((a0.size : Int) / 2)) = ji12 := (i64_w _).trans hji12
   by_cases c13 : 0 ≤ (ji12)
   rotate_left
   ·rw [if_neg c13] at H
    exact absurd H (by simp)
   rw [if_pos c13] at H
   have c13b0 := eq_true c13
   have c13b1 : decide (0 ≤ (ji12)) = true := decide_eq_true c13
   clear c13
   by_cases c14 : (ji12) ≤ (wrap64 ((ji12) + a1))
   rotate_left
   ·rw [if_neg c14] at H
    exact absurd H (by simp)
   rw [if_pos c14] at H
   have c14b0 := eq_true c14
   have c14b1 : decide ((ji12) ≤ (wrap64 ((ji12) + a1))) = true := decide_eq_true c14
   by_cases c15 : (wrap64 ((ji12) + a1)) ≤ (a0.size : Int)
   rotate_left
   ·rw [if_neg c15] at H
    exact absurd H (by simp)
   rw [if_pos c15] at H
   have c15b0 := eq_true c15
   have c15b1 : decide ((wrap64 ((ji12) + a1)) ≤ (a0.size : Int)) = true := decide_eq_true c15
   by_cases c16 : 0 ≤ a1
   rotate_left
   ·rw [if_neg c16] at H
    exact absurd H (by simp)
   rw [if_pos c16] at H
   have c16b0 := eq_true c16
   have c16b1 : decide (0 ≤ a1) = true := decide_eq_true c16
   clear c16
   by_cases c17 : a1 ≤ (a0.size : Int)
   rotate_left
   ·rw [if_neg c17] at H
    exact absurd H (by simp)
   rw [if_pos c17] at H
   have c17b0 := eq_true c17
   have c17b1 : decide (a1 ≤ (a0.size : Int)) = true := decide_eq_true c17
   clear c17
   replace H := ob H
   obtain ⟨t155, A180, H⟩ := H
   (try dsimp only at H)
   have A18 := am A180
   clear A180
   by_cases c19 : (a0.extract ((ji12) : Int).toNat ((wrap64 ((ji12) + a1)) : Int).toNat).toList = t155.toList
   rotate_left
   ·rw [if_neg c19] at H
    have c19b0 : ((a0.extract ((ji12) : Int).toNat ((wrap64 ((ji12) + a1)) : Int).toNat).toList == t155.toList) = false := beq_eq_false_iff_ne.mpr c19
    have c19b1 : ((a0.extract ((ji12) : Int).toNat ((wrap64 ((ji12) + a1)) : Int).toNat).toList != t155.toList) = true := bne_iff_ne.mpr c19
    obtain rfl := oi H
    try go_wp2
    have n0_ := am (Kd.R_drew HO_23.out)
    have n1_ := am (Bb3 HB.out)
    clear HO_23
    clear HB
    have HO_23 := n0_
    have HB := n1_
    clear n0_ n1_
    refine start_ (n := 53) (S := fun w' => True) (ds := []) impl_isFactoring.m0 (by kernel_rfl) rfl rfl trivial (fun hHeld => ?_); refine with_tabW impl_isFactoring.tab10 impl_isFactoring.bits10 (fun HT_ HW_ => ?_)
    generalize wr.drew = w44 at HO_23 HB hHeld ⊢
    refine pure_ (i := 0) (N := some 34) (v := ?_) (a' := ?_) impl_isFactoring.m1 rfl rfl zA (fun _ _ _ h => h) (Or.inl ⟨by rfl, ?_⟩) ?_ ?_
    rotate_left
    ·intro w'
     go_simp
     with_reducible rfl
    rotate_left
    ·exact zP
    refine pure_ (i := 1) (N := some 35) (v := ?_) (a' := ?_) impl_isFactoring.m2 rfl rfl zA (fun _ _ _ h => h) (Or.inl ⟨by rfl, ?_⟩) ?_ ?_
    rotate_left
    ·intro w'
     go_simp
     with_reducible rfl
    rotate_left
    ·exact zP
    refine pure_ (i := 2) (N := some 36) (v := ?_) (a' := ?_) impl_isFactoring.m3 rfl rfl zA (fun _ _ _ h => h) (Or.inl ⟨by rfl, ?_⟩) ?_ ?_
    rotate_left
    ·intro w'
     go_simp
     with_reducible rfl
    rotate_left
    ·exact zP
    refine pure_ (i := 3) (N := some 37) (v := ?_) (a' := ?_) impl_isFactoring.m4 rfl rfl zA (fun _ _ _ h => h) (Or.inl ⟨by rfl, ?_⟩) ?_ ?_
    rotate_left
    ·intro w'
     go_simp
     with_reducible rfl
    rotate_left
    ·exact zP
    refine pure_ (i := 4) (N := some 38) (v := ?_) (a' := ?_) impl_isFactoring.m5 rfl rfl zA (fun _ _ _ h => h) (Or.inl ⟨by rfl, ?_⟩) ?_ ?_
    rotate_left
    ·intro w'
     go_simp
     with_reducible rfl
    rotate_left
    ·exact zP
    refine pure_ (i := 5) (N := some 39) (v := ?_) (a' := ?_) impl_isFactoring.m6 rfl rfl zA (fun _ _ _ h => h) (Or.inl ⟨by rfl, ?_⟩) ?_ ?_
    rotate_left
    ·intro w'
     go_simp
     with_reducible rfl
    rotate_left
    ·exact zP
    refine pure_ (i := 6) (N := some 40) (v := ?_) (a' := ?_) impl_isFactoring.m7 rfl rfl zA (fun _ _ _ h => h) (Or.inl ⟨by rfl, ?_⟩) ?_ ?_
    rotate_left
    ·intro w'
     go_simp
     with_reducible rfl
    rotate_left
    ·exact zP
    refine pure_ (i := 7) (N := some 41) (v := ?_) (a' := ?_) impl_isFactoring.m8 rfl rfl zA (fun _ _ _ h => h) (Or.inl ⟨by rfl, ?_⟩) ?_ ?_
    rotate_left
    ·intro w'
     go_simp
     with_reducible rfl
    rotate_left
    ·exact zP
    refine pure_ (i := 8) (N := some 42) (v := ?_) (a' := ?_) impl_isFactoring.m9 rfl rfl zA (fun _ _ _ h => h) (Or.inl ⟨by rfl, ?_⟩) ?_ ?_
    rotate_left
    ·intro w'
     go_simp
     with_reducible rfl
    rotate_left
    ·exact zP
    refine pure_ (i := 9) (N := some 43) (v := ?_) (a' := ?_) impl_isFactoring.m10 rfl rfl zA (fun _ _ _ h => h) (Or.inl ⟨by rfl, ?_⟩) ?_ ?_
    rotate_left
    ·intro w'
     go_simp
     with_reducible rfl
    rotate_left
    ·exact zP
    refine pure_ (i := 10) (N := some 44) (v := ?_) (a' := ?_) impl_isFactoring.m11 rfl rfl zA (fun _ _ _ h => h) (Or.inl ⟨by rfl, ?_⟩) ?_ ?_
    rotate_left
    ·intro w'
     go_simp
     with_reducible rfl
    rotate_left
    ·exact zP
    refine pure_ (i := 11) (N := some 45) (v := ?_) (a' := ?_) impl_isFactoring.m12 rfl rfl zA (fun _ _ _ h => h) (Or.inl ⟨by rfl, ?_⟩) ?_ ?_
    rotate_left
    ·intro w'
     go_simp
     with_reducible rfl
    rotate_left
    ·exact zP
    refine one_ (i := 12) (N := some 46) impl_isFactoring.m13 rfl rfl (one_of HT_.out (by kernel_rfl)) (by decide) (fun K hK => ?_)
    refine goes_ Tryd.func34 (by kernel_rfl) rfl #[.string (a0.extract 0 (a1 : Int).toNat)] (by rfl) rfl rfl zL ?_
    with_reducible refine (impl_backWord.calls (a0.extract 0 (a1 : Int).toNat) t155 _ A18.out).mono ?_
    rintro e w45 ⟨rfl, hb⟩
    refine ⟨_, rfl, ?_⟩
    have n0_ := am (Kd.R_below (zR HO_23) hb)
    have n1_ := am (Bb6 zB hb)
    clear HO_23
    clear HB
    have HO_23 := n0_
    have HB := n1_
    clear n0_ n1_
    (try clear hb)
    (try clear hb2)
    (try clear hk)
    (try clear hi)
    refine hK.out _ _ trivial (fun hHeld => ?_)
    clear hK K
    refine norm_ (a' := ?_) ?_ ?_
    rotate_left
    ·show Act.put _ (some 46) _ = _
     simp only [Act.put, sa, i64_w, i32_w]
     rfl
    refine pure_ (i := 13) (N := some 47) (v := ?_) (a' := ?_) impl_isFactoring.m14 rfl rfl zA (fun _ _ _ h => h) (Or.inl ⟨by rfl, ?_⟩) ?_ ?_
    rotate_left
    ·intro w'
     go_simp
     with_reducible rfl
    rotate_left
    ·exact zP
    refine pure_ (i := 14) (N := some 48) (v := ?_) (a' := ?_) impl_isFactoring.m15 rfl rfl zA (fun _ _ _ h => h) (Or.inl ⟨by rfl, ?_⟩) ?_ ?_
    rotate_left
    ·intro w'
     go_simp
     with_reducible rfl
    rotate_left
    ·exact zP
    refine pure_ (i := 15) (N := some 49) (v := ?_) (a' := ?_) impl_isFactoring.m16 rfl rfl zA (fun _ _ _ h => h) (Or.inl ⟨by rfl, ?_⟩) ?_ ?_
    rotate_left
    ·intro w'
     go_simp
     with_reducible rfl
    rotate_left
    ·exact zP
    refine pure_ (i := 16) (N := some 50) (v := undef) (a' := ?_) impl_isFactoring.m17 rfl rfl zA (fun _ _ _ h => h) (Or.inr ⟨by rfl, rfl⟩) ?_ ?_
    rotate_left
    ·exact zP
    refine pure_ (i := 17) (N := some 51) (v := undef) (a' := ?_) impl_isFactoring.m18 rfl rfl zA (fun _ _ _ h => h) (Or.inr ⟨by rfl, rfl⟩) ?_ ?_
    rotate_left
    ·exact zP
    refine pure_ (i := 18) (N := some 52) (v := undef) (a' := ?_) impl_isFactoring.m19 rfl rfl zA (fun _ _ _ h => h) (Or.inr ⟨by rfl, rfl⟩) ?_ ?_
    rotate_left
    ·exact zP
    refine pure_ (i := 19) (N := some 53) (v := undef) (a' := ?_) impl_isFactoring.m20 rfl rfl zA (fun _ _ _ h => h) (Or.inr ⟨by rfl, rfl⟩) ?_ ?_
    rotate_left
    ·exact zP
    refine pure_ (i := 20) (N := some 54) (v := undef) (a' := ?_) impl_isFactoring.m21 rfl rfl zA (fun _ _ _ h => h) (Or.inr ⟨by rfl, rfl⟩) ?_ ?_
    rotate_left
    ·exact zP
    refine pure_ (i := 21) (N := some 55) (v := undef) (a' := ?_) impl_isFactoring.m22 rfl rfl zA (fun _ _ _ h => h) (Or.inr ⟨by rfl, rfl⟩) ?_ ?_
    rotate_left
    ·exact zP
    refine pure_ (i := 22) (N := some 56) (v := undef) (a' := ?_) impl_isFactoring.m23 rfl rfl zA (fun _ _ _ h => h) (Or.inr ⟨by rfl, rfl⟩) ?_ ?_
    rotate_left
    ·exact zP
    refine pure_ (i := 23) (N := some 57) (v := undef) (a' := ?_) impl_isFactoring.m24 rfl rfl zA (fun _ _ _ h => h) (Or.inr ⟨by rfl, rfl⟩) ?_ ?_
    rotate_left
    ·exact zP
    refine pure_ (i := 24) (N := some 58) (v := undef) (a' := ?_) impl_isFactoring.m25 rfl rfl zA (fun _ _ _ h => h) (Or.inr ⟨by rfl, rfl⟩) ?_ ?_
    rotate_left
    ·exact zP
    refine pure_ (i := 25) (N := some 59) (v := undef) (a' := ?_) impl_isFactoring.m26 rfl rfl zA (fun _ _ _ h => h) (Or.inr ⟨by rfl, rfl⟩) ?_ ?_
    rotate_left
    ·exact zP
    refine pure_ (i := 26) (N := some 60) (v := undef) (a' := ?_) impl_isFactoring.m27 rfl rfl zA (fun _ _ _ h => h) (Or.inr ⟨by rfl, rfl⟩) ?_ ?_
    rotate_left
    ·exact zP
    refine pure_ (i := 27) (N := some 61) (v := undef) (a' := ?_) impl_isFactoring.m28 rfl rfl zA (fun _ _ _ h => h) (Or.inr ⟨by rfl, rfl⟩) ?_ ?_
    rotate_left
    ·exact zP
    refine pure_ (i := 28) (N := some 62) (v := undef) (a' := ?_) impl_isFactoring.m29 rfl rfl zA (fun _ _ _ h => h) (Or.inr ⟨by rfl, rfl⟩) ?_ ?_
    rotate_left
    ·exact zP
    refine pure_ (i := 29) (N := some 63) (v := undef) (a' := ?_) impl_isFactoring.m30 rfl rfl zA (fun _ _ _ h => h) (Or.inr ⟨by rfl, rfl⟩) ?_ ?_
    rotate_left
    ·exact zP
    refine pure_ (i := 30) (N := some 64) (v := undef) (a' := ?_) impl_isFactoring.m31 rfl rfl zA (fun _ _ _ h => h) (Or.inr ⟨by rfl, rfl⟩) ?_ ?_
    rotate_left
    ·exact zP
    refine pure_ (i := 31) (N := some 65) (v := undef) (a' := ?_) impl_isFactoring.m32 rfl rfl zA (fun _ _ _ h => h) (Or.inr ⟨by rfl, rfl⟩) ?_ ?_
    rotate_left
    ·exact zP
    refine pure_ (i := 32) (N := some 66) (v := undef) (a' := ?_) impl_isFactoring.m33 rfl rfl zA (fun _ _ _ h => h) (Or.inr ⟨by rfl, rfl⟩) ?_ ?_
    rotate_left
    ·exact zP
    refine pure_ (i := 33) (N := some 67) (v := undef) (a' := ?_) impl_isFactoring.m34 rfl rfl zA (fun _ _ _ h => h) (Or.inr ⟨by rfl, rfl⟩) ?_ ?_
    rotate_left
    ·exact zP
    refine pure_ (i := 34) (N := some 68) (v := ?_) (a' := ?_) impl_isFactoring.m35 rfl rfl zA (fun _ _ _ h => h) (Or.inl ⟨by rfl, ?_⟩) ?_ ?_
    rotate_left
    ·intro w'
     go_simp
     with_reducible rfl
    rotate_left
    ·exact zP
    refine pure_ (i := 35) (N := some 69) (v := ?_) (a' := ?_) impl_isFactoring.m36 rfl rfl zA (fun _ _ _ h => h) (Or.inl ⟨by rfl, ?_⟩) ?_ ?_
    rotate_left
    ·intro w'
     go_simp
     with_reducible rfl
    rotate_left
    ·exact zP
    refine pure_ (i := 36) (N := some 70) (v := undef) (a' := ?_) impl_isFactoring.m37 rfl rfl zA (fun _ _ _ h => h) (Or.inr ⟨by rfl, rfl⟩) ?_ ?_
    rotate_left
    ·exact zP
    refine pure_ (i := 37) (N := some 71) (v := undef) (a' := ?_) impl_isFactoring.m38 rfl rfl zA (fun _ _ _ h => h) (Or.inr ⟨by rfl, rfl⟩) ?_ ?_
    rotate_left
    ·exact zP
    refine pure_ (i := 38) (N := some 72) (v := undef) (a' := ?_) impl_isFactoring.m39 rfl rfl zA (fun _ _ _ h => h) (Or.inr ⟨by rfl, rfl⟩) ?_ ?_
    rotate_left
    ·exact zP
    refine pure_ (i := 39) (N := some 73) (v := undef) (a' := ?_) impl_isFactoring.m40 rfl rfl zA (fun _ _ _ h => h) (Or.inr ⟨by rfl, rfl⟩) ?_ ?_
    rotate_left
    ·exact zP
    refine pure_ (i := 40) (N := some 74) (v := undef) (a' := ?_) impl_isFactoring.m41 rfl rfl zA (fun _ _ _ h => h) (Or.inr ⟨by rfl, rfl⟩) ?_ ?_
    rotate_left
    ·exact zP
    refine pure_ (i := 41) (N := some 75) (v := undef) (a' := ?_) impl_isFactoring.m42 rfl rfl zA (fun _ _ _ h => h) (Or.inr ⟨by rfl, rfl⟩) ?_ ?_
    rotate_left
    ·exact zP
    refine pure_ (i := 42) (N := some 76) (v := undef) (a' := ?_) impl_isFactoring.m43 rfl rfl zA (fun _ _ _ h => h) (Or.inr ⟨by rfl, rfl⟩) ?_ ?_
    rotate_left
    ·exact zP
    refine pure_ (i := 43) (N := some 77) (v := undef) (a' := ?_) impl_isFactoring.m44 rfl rfl zA (fun _ _ _ h => h) (Or.inr ⟨by rfl, rfl⟩) ?_ ?_
    rotate_left
    ·exact zP
    refine pure_ (i := 44) (N := some 78) (v := undef) (a' := ?_) impl_isFactoring.m45 rfl rfl zA (fun _ _ _ h => h) (Or.inr ⟨by rfl, rfl⟩) ?_ ?_
    rotate_left
    ·exact zP
    refine pure_ (i := 45) (N := some 79) (v := undef) (a' := ?_) impl_isFactoring.m46 rfl rfl zA (fun _ _ _ h => h) (Or.inr ⟨by rfl, rfl⟩) ?_ ?_
    rotate_left
    ·exact zP
    refine pure_ (i := 46) (N := some 80) (v := undef) (a' := ?_) impl_isFactoring.m47 rfl rfl zA (fun _ _ _ h => h) (Or.inr ⟨by rfl, rfl⟩) ?_ ?_
    rotate_left
    ·exact zP
    refine pure_ (i := 47) (N := some 81) (v := undef) (a' := ?_) impl_isFactoring.m48 rfl rfl zA (fun _ _ _ h => h) (Or.inr ⟨by rfl, rfl⟩) ?_ ?_
    rotate_left
    ·exact zP
    refine pure_ (i := 48) (N := some 82) (v := undef) (a' := ?_) impl_isFactoring.m49 rfl rfl zA (fun _ _ _ h => h) (Or.inr ⟨by rfl, rfl⟩) ?_ ?_
    rotate_left
    ·exact zP
    refine pure_ (i := 49) (N := some 83) (v := undef) (a' := ?_) impl_isFactoring.m50 rfl rfl zA (fun _ _ _ h => h) (Or.inr ⟨by rfl, rfl⟩) ?_ ?_
    rotate_left
    ·exact zP
    refine pure_ (i := 50) (N := some 84) (v := undef) (a' := ?_) impl_isFactoring.m51 rfl rfl zA (fun _ _ _ h => h) (Or.inr ⟨by rfl, rfl⟩) ?_ ?_
    rotate_left
    ·exact zP
    refine pure_ (i := 51) (N := some 85) (v := ?_) (a' := ?_) impl_isFactoring.m52 rfl rfl zA (fun _ _ _ h => h) (Or.inl ⟨by rfl, ?_⟩) ?_ ?_
    rotate_left
    ·intro w'
     go_simp
     with_reducible rfl
    rotate_left
    ·exact zP
    refine pure_ (i := 52) (N := some 6) (v := ?_) (a' := ?_) impl_isFactoring.m53 rfl rfl zA (fun _ _ _ h => h) (Or.inl ⟨by rfl, ?_⟩) ?_ ?_
    rotate_left
    ·intro w'
     go_simp
     with_reducible rfl
    rotate_left
    ·exact zP
    refine done_ (done_of HT_.out (by kernel_rfl)) ?_
    try go_wp2
    go_ret
    exact ⟨by first | rfl | (simp [errW_none, errW_some] <;> rfl) | (simp only [← hji12]; first | rfl | (simp [errW_none, errW_some] <;> rfl)) | (simp [*, errW_none, errW_some] <;> rfl), zB⟩
   rw [if_pos c19] at H
   have c19b0 : ((a0.extract ((ji12) : Int).toNat ((wrap64 ((ji12) + a1)) : Int).toNat).toList == t155.toList) = true := beq_iff_eq.mpr c19
   have c19b1 : ((a0.extract ((ji12) : Int).toNat ((wrap64 ((ji12) + a1)) : Int).toNat).toList != t155.toList) = false := bne_eq_false_iff_eq.mpr c19
   clear c19
   obtain ⟨ji20, hji20⟩ : ∃ j_ : Int, (wrap64 ((ji12) + a1)) = j_ := ⟨_, rfl⟩
   replace H : (if 0 ≤ (ji20) then (if (ji20) ≤ (wrap64 ((ji20) + a2)) then (if (wrap64 ((ji20) + a2)) ≤ (a0.size : Int) then (if a1 ≤ (wrap64 (a1 + a2)) then (if (wrap64 (a1 + a2)) ≤ (a0.size : Int) then ((impl_backWord.f (a0.extract (a1 : Int).toNat ((wrap64 (a1 + a2)) : Int).toNat)).bind fun t156 => (if (a0.extract ((ji20) : Int).toNat ((wrap64 ((ji20) + a2)) : Int).toNat).toList = t156.toList then (if 0 ≤ (wrap64 ((ji20) + a2)) then (if 0 ≤ (wrap64 (a1 + a2)) then (if (wrap64 (a1 + a2)) ≤ (ji12) then (if (ji12) ≤ (a0.size : Int) then ((impl_backWord.f (a0.extract ((wrap64 (a1 + a2)) : Int).toNat ((ji12) : Int).toNat)).bind fun t157 => (some ((a0.extract ((wrap64 ((ji20) + a2)) : Int).toNat a0.size).toList == t157.toList))) else (none)) else (none)) else (none)) else (none)) else (some false))) else (none)) else (none)) else (none)) else (none)) else (none)) = some r := by first | (rw [hji20] at H; exact H) | (simp only [hji20] at H ⊢; exact H)
   (try rw [hji20] at c14b0)
   (try rw [hji20] at c14b1)
   (try rw [hji20] at c14)
   (try rw [hji20] at c15b0)
   (try rw [hji20] at c15b1)
   (try rw [hji20] at c15)
   (try rw [hji20] at c19b0)
   (try rw [hji20] at c19b1)
   (try rw [hji20] at A18)
   have hji20w : (IntKind.i64.wrap ((ji12) + a1)) = ji20 := (i64_w _).trans hji20
   by_cases c21 : 0 ≤ (ji20)
   rotate_left
   ·rw [if_neg c21] at H
    exact absurd H (by simp)
   rw [if_pos c21] at H
   have c21b0 := eq_true c21
   have c21b1 : decide (0 ≤ (ji20)) = true := decide_eq_true c21
   clear c21
   by_cases c22 : (ji20) ≤ (wrap64 ((ji20) + a2))
   rotate_left
   ·rw [if_neg c22] at H
    exact absurd H (by simp)
   rw [if_pos c22] at H
   have c22b0 := eq_true c22
   have c22b1 : decide ((ji20) ≤ (wrap64 ((ji20) + a2))) = true := decide_eq_true c22
   by_cases c23 : (wrap64 ((ji20) + a2)) ≤ (a0.size : Int)
   rotate_left
   ·rw [if_neg c23] at H
    exact absurd H (by simp)
   rw [if_pos c23] at H
   have c23b0 := eq_true c23
   have c23b1 : decide ((wrap64 ((ji20) + a2)) ≤ (a0.size : Int)) = true := decide_eq_true c23
   have c24b0 := eq_true (zD : 0 ≤ a1)
   by_cases c25 : a1 ≤ (wrap64 (a1 + a2))
   rotate_left
   ·rw [if_neg c25] at H
    exact absurd H (by simp)
   rw [if_pos c25] at H
   have c25b0 := eq_true c25
   have c25b1 : decide (a1 ≤ (wrap64 (a1 + a2))) = true := decide_eq_true c25
   by_cases c26 : (wrap64 (a1 + a2)) ≤ (a0.size : Int)
   rotate_left
   ·rw [if_neg c26] at H
    exact absurd H (by simp)
   rw [if_pos c26] at H
   have c26b0 := eq_true c26
   have c26b1 : decide ((wrap64 (a1 + a2)) ≤ (a0.size : Int)) = true := decide_eq_true c26
   replace H := ob H
   obtain ⟨t156, A270, H⟩ := H
   (try dsimp only at H)
   have A27 := am A270
   clear A270
   by_cases c28 : (a0.extract ((ji20) : Int).toNat ((wrap64 ((ji20) + a2)) : Int).toNat).toList = t156.toList
   rotate_left
   ·rw [if_neg c28] at H
    have c28b0 : ((a0.extract ((ji20) : Int).toNat ((wrap64 ((ji20) + a2)) : Int).toNat).toList == t156.toList) = false := beq_eq_false_iff_ne.mpr c28
    have c28b1 : ((a0.extract ((ji20) : Int).toNat ((wrap64 ((ji20) + a2)) : Int).toNat).toList != t156.toList) = true := bne_iff_ne.mpr c28
    obtain rfl := oi H
    try go_wp2
    have n0_ := am (Kd.R_drew HO_23.out)
    have n1_ := am (Bb3 HB.out)
    clear HO_23
    clear HB
    have HO_23 := n0_
    have HB := n1_
    clear n0_ n1_
    refine start_ (n := 53) (S := fun w' => True) (ds := []) impl_isFactoring.m0 (by kernel_rfl) rfl rfl trivial (fun hHeld => ?_); refine with_tabW impl_isFactoring.tab10 impl_isFactoring.bits10 (fun HT_ HW_ => ?_)
    generalize wr.drew = w41 at HO_23 HB hHeld ⊢
    refine pure_ (i := 0) (N := some 34) (v := ?_) (a' := ?_) impl_isFactoring.m1 rfl rfl zA (fun _ _ _ h => h) (Or.inl ⟨by rfl, ?_⟩) ?_ ?_
    rotate_left
    ·intro w'
     go_simp
     with_reducible rfl
    rotate_left
    ·exact zP
    refine pure_ (i := 1) (N := some 35) (v := ?_) (a' := ?_) impl_isFactoring.m2 rfl rfl zA (fun _ _ _ h => h) (Or.inl ⟨by rfl, ?_⟩) ?_ ?_
    rotate_left
    ·intro w'
     go_simp
     with_reducible rfl
    rotate_left
    ·exact zP
    refine pure_ (i := 2) (N := some 36) (v := ?_) (a' := ?_) impl_isFactoring.m3 rfl rfl zA (fun _ _ _ h => h) (Or.inl ⟨by rfl, ?_⟩) ?_ ?_
    rotate_left
    ·intro w'
     go_simp
     with_reducible rfl
    rotate_left
    ·exact zP
    refine pure_ (i := 3) (N := some 37) (v := ?_) (a' := ?_) impl_isFactoring.m4 rfl rfl zA (fun _ _ _ h => h) (Or.inl ⟨by rfl, ?_⟩) ?_ ?_
    rotate_left
    ·intro w'
     go_simp
     with_reducible rfl
    rotate_left
    ·exact zP
    refine pure_ (i := 4) (N := some 38) (v := ?_) (a' := ?_) impl_isFactoring.m5 rfl rfl zA (fun _ _ _ h => h) (Or.inl ⟨by rfl, ?_⟩) ?_ ?_
    rotate_left
    ·intro w'
     go_simp
     with_reducible rfl
    rotate_left
    ·exact zP
    refine pure_ (i := 5) (N := some 39) (v := ?_) (a' := ?_) impl_isFactoring.m6 rfl rfl zA (fun _ _ _ h => h) (Or.inl ⟨by rfl, ?_⟩) ?_ ?_
    rotate_left
    ·intro w'
     go_simp
     with_reducible rfl
    rotate_left
    ·exact zP
    refine pure_ (i := 6) (N := some 40) (v := ?_) (a' := ?_) impl_isFactoring.m7 rfl rfl zA (fun _ _ _ h => h) (Or.inl ⟨by rfl, ?_⟩) ?_ ?_
    rotate_left
    ·intro w'
     go_simp
     with_reducible rfl
    rotate_left
    ·exact zP
    refine pure_ (i := 7) (N := some 41) (v := ?_) (a' := ?_) impl_isFactoring.m8 rfl rfl zA (fun _ _ _ h => h) (Or.inl ⟨by rfl, ?_⟩) ?_ ?_
    rotate_left
    ·intro w'
     go_simp
     with_reducible rfl
    rotate_left
    ·exact zP
    refine pure_ (i := 8) (N := some 42) (v := ?_) (a' := ?_) impl_isFactoring.m9 rfl rfl zA (fun _ _ _ h => h) (Or.inl ⟨by rfl, ?_⟩) ?_ ?_
    rotate_left
    ·intro w'
     go_simp
     with_reducible rfl
    rotate_left
    ·exact zP
    refine pure_ (i := 9) (N := some 43) (v := ?_) (a' := ?_) impl_isFactoring.m10 rfl rfl zA (fun _ _ _ h => h) (Or.inl ⟨by rfl, ?_⟩) ?_ ?_
    rotate_left
    ·intro w'
     go_simp
     with_reducible rfl
    rotate_left
    ·exact zP
    refine pure_ (i := 10) (N := some 44) (v := ?_) (a' := ?_) impl_isFactoring.m11 rfl rfl zA (fun _ _ _ h => h) (Or.inl ⟨by rfl, ?_⟩) ?_ ?_
    rotate_left
    ·intro w'
     go_simp
     with_reducible rfl
    rotate_left
    ·exact zP
    refine pure_ (i := 11) (N := some 45) (v := ?_) (a' := ?_) impl_isFactoring.m12 rfl rfl zA (fun _ _ _ h => h) (Or.inl ⟨by rfl, ?_⟩) ?_ ?_
    rotate_left
    ·intro w'
     go_simp
     with_reducible rfl
    rotate_left
    ·exact zP
    refine one_ (i := 12) (N := some 46) impl_isFactoring.m13 rfl rfl (one_of HT_.out (by kernel_rfl)) (by decide) (fun K hK => ?_)
    refine goes_ Tryd.func34 (by kernel_rfl) rfl #[.string (a0.extract 0 (a1 : Int).toNat)] (by rfl) rfl rfl zL ?_
    with_reducible refine (impl_backWord.calls (a0.extract 0 (a1 : Int).toNat) t155 _ A18.out).mono ?_
    rintro e w42 ⟨rfl, hb⟩
    refine ⟨_, rfl, ?_⟩
    have n0_ := am (Kd.R_below (zR HO_23) hb)
    have n1_ := am (Bb6 zB hb)
    clear HO_23
    clear HB
    have HO_23 := n0_
    have HB := n1_
    clear n0_ n1_
    (try clear hb)
    (try clear hb2)
    (try clear hk)
    (try clear hi)
    refine hK.out _ _ trivial (fun hHeld => ?_)
    clear hK K
    refine norm_ (a' := ?_) ?_ ?_
    rotate_left
    ·show Act.put _ (some 46) _ = _
     simp only [Act.put, sa, i64_w, i32_w]
     rfl
    refine pure_ (i := 13) (N := some 47) (v := ?_) (a' := ?_) impl_isFactoring.m14 rfl rfl zA (fun _ _ _ h => h) (Or.inl ⟨by rfl, ?_⟩) ?_ ?_
    rotate_left
    ·intro w'
     go_simp
     with_reducible rfl
    rotate_left
    ·exact zP
    refine pure_ (i := 14) (N := some 48) (v := ?_) (a' := ?_) impl_isFactoring.m15 rfl rfl zA (fun _ _ _ h => h) (Or.inl ⟨by rfl, ?_⟩) ?_ ?_
    rotate_left
    ·intro w'
     go_simp
     with_reducible rfl
    rotate_left
    ·exact zP
    refine pure_ (i := 15) (N := some 49) (v := ?_) (a' := ?_) impl_isFactoring.m16 rfl rfl zA (fun _ _ _ h => h) (Or.inl ⟨by rfl, ?_⟩) ?_ ?_
    rotate_left
    ·intro w'
     go_simp
     with_reducible rfl
    rotate_left
    ·exact zP
    refine pure_ (i := 16) (N := some 50) (v := ?_) (a' := ?_) impl_isFactoring.m17 rfl rfl zA (fun _ _ _ h => h) (Or.inl ⟨by rfl, ?_⟩) ?_ ?_
    rotate_left
    ·intro w'
     go_simp
     with_reducible rfl
    rotate_left
    ·exact zP
    refine pure_ (i := 17) (N := some 51) (v := ?_) (a' := ?_) impl_isFactoring.m18 rfl rfl zA (fun _ _ _ h => h) (Or.inl ⟨by rfl, ?_⟩) ?_ ?_
    rotate_left
    ·intro w'
     go_simp
     with_reducible rfl
    rotate_left
    ·exact zP
    refine pure_ (i := 18) (N := some 52) (v := ?_) (a' := ?_) impl_isFactoring.m19 rfl rfl zA (fun _ _ _ h => h) (Or.inl ⟨by rfl, ?_⟩) ?_ ?_
    rotate_left
    ·intro w'
     go_simp
     with_reducible rfl
    rotate_left
    ·exact zP
    refine pure_ (i := 19) (N := some 53) (v := ?_) (a' := ?_) impl_isFactoring.m20 rfl rfl zA (fun _ _ _ h => h) (Or.inl ⟨by rfl, ?_⟩) ?_ ?_
    rotate_left
    ·intro w'
     go_simp
     with_reducible rfl
    rotate_left
    ·exact zP
    refine pure_ (i := 20) (N := some 54) (v := ?_) (a' := ?_) impl_isFactoring.m21 rfl rfl zA (fun _ _ _ h => h) (Or.inl ⟨by rfl, ?_⟩) ?_ ?_
    rotate_left
    ·intro w'
     go_simp
     with_reducible rfl
    rotate_left
    ·exact zP
    refine pure_ (i := 21) (N := some 55) (v := ?_) (a' := ?_) impl_isFactoring.m22 rfl rfl zA (fun _ _ _ h => h) (Or.inl ⟨by rfl, ?_⟩) ?_ ?_
    rotate_left
    ·intro w'
     go_simp
     with_reducible rfl
    rotate_left
    ·exact zP
    refine pure_ (i := 22) (N := some 56) (v := ?_) (a' := ?_) impl_isFactoring.m23 rfl rfl zA (fun _ _ _ h => h) (Or.inl ⟨by rfl, ?_⟩) ?_ ?_
    rotate_left
    ·intro w'
     go_simp
     with_reducible rfl
    rotate_left
    ·exact zP
    refine pure_ (i := 23) (N := some 57) (v := ?_) (a' := ?_) impl_isFactoring.m24 rfl rfl zA (fun _ _ _ h => h) (Or.inl ⟨by rfl, ?_⟩) ?_ ?_
    rotate_left
    ·intro w'
     go_simp
     with_reducible rfl
    rotate_left
    ·exact zP
    refine pure_ (i := 24) (N := some 58) (v := ?_) (a' := ?_) impl_isFactoring.m25 rfl rfl zA (fun _ _ _ h => h) (Or.inl ⟨by rfl, ?_⟩) ?_ ?_
    rotate_left
    ·intro w'
     go_simp
     with_reducible rfl
    rotate_left
    ·exact zP
    refine pure_ (i := 25) (N := some 59) (v := ?_) (a' := ?_) impl_isFactoring.m26 rfl rfl zA (fun _ _ _ h => h) (Or.inl ⟨by rfl, ?_⟩) ?_ ?_
    rotate_left
    ·intro w'
     go_simp
     with_reducible rfl
    rotate_left
    ·exact zP
    refine pure_ (i := 26) (N := some 60) (v := ?_) (a' := ?_) impl_isFactoring.m27 rfl rfl zA (fun _ _ _ h => h) (Or.inl ⟨by rfl, ?_⟩) ?_ ?_
    rotate_left
    ·intro w'
     go_simp
     with_reducible rfl
    rotate_left
    ·exact zP
    refine pure_ (i := 27) (N := some 61) (v := ?_) (a' := ?_) impl_isFactoring.m28 rfl rfl zA (fun _ _ _ h => h) (Or.inl ⟨by rfl, ?_⟩) ?_ ?_
    rotate_left
    ·intro w'
     go_simp
     with_reducible rfl
    rotate_left
    ·exact zP
    refine pure_ (i := 28) (N := some 62) (v := ?_) (a' := ?_) impl_isFactoring.m29 rfl rfl zA (fun _ _ _ h => h) (Or.inl ⟨by rfl, ?_⟩) ?_ ?_
    rotate_left
    ·intro w'
     go_simp
     with_reducible rfl
    rotate_left
    ·exact zP
    refine pure_ (i := 29) (N := some 63) (v := ?_) (a' := ?_) impl_isFactoring.m30 rfl rfl zA (fun _ _ _ h => h) (Or.inl ⟨by rfl, ?_⟩) ?_ ?_
    rotate_left
    ·intro w'
     go_simp
     with_reducible rfl
    rotate_left
    ·exact zP
    refine pure_ (i := 30) (N := some 64) (v := ?_) (a' := ?_) impl_isFactoring.m31 rfl rfl zA (fun _ _ _ h => h) (Or.inl ⟨by rfl, ?_⟩) ?_ ?_
    rotate_left
    ·intro w'
     go_simp
     with_reducible rfl
    rotate_left
    ·exact zP
    refine pure_ (i := 31) (N := some 65) (v := ?_) (a' := ?_) impl_isFactoring.m32 rfl rfl zA (fun _ _ _ h => h) (Or.inl ⟨by rfl, ?_⟩) ?_ ?_
    rotate_left
    ·intro w'
     go_simp
     with_reducible rfl
    rotate_left
    ·exact zP
    refine one_ (i := 32) (N := some 66) impl_isFactoring.m33 rfl rfl (one_of HT_.out (by kernel_rfl)) (by decide) (fun K hK => ?_)
    refine goes_ Tryd.func34 (by kernel_rfl) rfl #[.string (a0.extract (a1 : Int).toNat ((wrap64 (a1 + a2)) : Int).toNat)] (by rfl) rfl rfl zL ?_
    with_reducible refine (impl_backWord.calls (a0.extract (a1 : Int).toNat ((wrap64 (a1 + a2)) : Int).toNat) t156 _ A27.out).mono ?_
    rintro e w43 ⟨rfl, hb⟩
    refine ⟨_, rfl, ?_⟩
    have n0_ := am (Kd.R_below (zR HO_23) hb)
    have n1_ := am (Bb6 zB hb)
    clear HO_23
    clear HB
    have HO_23 := n0_
    have HB := n1_
    clear n0_ n1_
    (try clear hb)
    (try clear hb2)
    (try clear hk)
    (try clear hi)
    refine hK.out _ _ trivial (fun hHeld => ?_)
    clear hK K
    refine norm_ (a' := ?_) ?_ ?_
    rotate_left
    ·show Act.put _ (some 66) _ = _
     simp only [Act.put, sa, i64_w, i32_w]
     rfl
    refine pure_ (i := 33) (N := some 67) (v := ?_) (a' := ?_) impl_isFactoring.m34 rfl rfl zA (fun _ _ _ h => h) (Or.inl ⟨by rfl, ?_⟩) ?_ ?_
    rotate_left
    ·intro w'
     go_simp
     with_reducible rfl
    rotate_left
    ·exact zP
    refine pure_ (i := 34) (N := some 68) (v := ?_) (a' := ?_) impl_isFactoring.m35 rfl rfl zA (fun _ _ _ h => h) (Or.inl ⟨by rfl, ?_⟩) ?_ ?_
    rotate_left
    ·intro w'
     go_simp
     with_reducible rfl
    rotate_left
    ·exact zP
    refine pure_ (i := 35) (N := some 69) (v := ?_) (a' := ?_) impl_isFactoring.m36 rfl rfl zA (fun _ _ _ h => h) (Or.inl ⟨by rfl, ?_⟩) ?_ ?_
    rotate_left
    ·intro w'
     go_simp
     with_reducible rfl
    rotate_left
    ·exact zP
    refine pure_ (i := 36) (N := some 70) (v := undef) (a' := ?_) impl_isFactoring.m37 rfl rfl zA (fun _ _ _ h => h) (Or.inr ⟨by rfl, rfl⟩) ?_ ?_
    rotate_left
    ·exact zP
    refine pure_ (i := 37) (N := some 71) (v := undef) (a' := ?_) impl_isFactoring.m38 rfl rfl zA (fun _ _ _ h => h) (Or.inr ⟨by rfl, rfl⟩) ?_ ?_
    rotate_left
    ·exact zP
    refine pure_ (i := 38) (N := some 72) (v := undef) (a' := ?_) impl_isFactoring.m39 rfl rfl zA (fun _ _ _ h => h) (Or.inr ⟨by rfl, rfl⟩) ?_ ?_
    rotate_left
    ·exact zP
    refine pure_ (i := 39) (N := some 73) (v := undef) (a' := ?_) impl_isFactoring.m40 rfl rfl zA (fun _ _ _ h => h) (Or.inr ⟨by rfl, rfl⟩) ?_ ?_
    rotate_left
    ·exact zP
    refine pure_ (i := 40) (N := some 74) (v := undef) (a' := ?_) impl_isFactoring.m41 rfl rfl zA (fun _ _ _ h => h) (Or.inr ⟨by rfl, rfl⟩) ?_ ?_
    rotate_left
    ·exact zP
    refine pure_ (i := 41) (N := some 75) (v := undef) (a' := ?_) impl_isFactoring.m42 rfl rfl zA (fun _ _ _ h => h) (Or.inr ⟨by rfl, rfl⟩) ?_ ?_
    rotate_left
    ·exact zP
    refine pure_ (i := 42) (N := some 76) (v := undef) (a' := ?_) impl_isFactoring.m43 rfl rfl zA (fun _ _ _ h => h) (Or.inr ⟨by rfl, rfl⟩) ?_ ?_
    rotate_left
    ·exact zP
    refine pure_ (i := 43) (N := some 77) (v := undef) (a' := ?_) impl_isFactoring.m44 rfl rfl zA (fun _ _ _ h => h) (Or.inr ⟨by rfl, rfl⟩) ?_ ?_
    rotate_left
    ·exact zP
    refine pure_ (i := 44) (N := some 78) (v := undef) (a' := ?_) impl_isFactoring.m45 rfl rfl zA (fun _ _ _ h => h) (Or.inr ⟨by rfl, rfl⟩) ?_ ?_
    rotate_left
    ·exact zP
    refine pure_ (i := 45) (N := some 79) (v := undef) (a' := ?_) impl_isFactoring.m46 rfl rfl zA (fun _ _ _ h => h) (Or.inr ⟨by rfl, rfl⟩) ?_ ?_
    rotate_left
    ·exact zP
    refine pure_ (i := 46) (N := some 80) (v := undef) (a' := ?_) impl_isFactoring.m47 rfl rfl zA (fun _ _ _ h => h) (Or.inr ⟨by rfl, rfl⟩) ?_ ?_
    rotate_left
    ·exact zP
    refine pure_ (i := 47) (N := some 81) (v := undef) (a' := ?_) impl_isFactoring.m48 rfl rfl zA (fun _ _ _ h => h) (Or.inr ⟨by rfl, rfl⟩) ?_ ?_
    rotate_left
    ·exact zP
    refine pure_ (i := 48) (N := some 82) (v := undef) (a' := ?_) impl_isFactoring.m49 rfl rfl zA (fun _ _ _ h => h) (Or.inr ⟨by rfl, rfl⟩) ?_ ?_
    rotate_left
    ·exact zP
    refine pure_ (i := 49) (N := some 83) (v := undef) (a' := ?_) impl_isFactoring.m50 rfl rfl zA (fun _ _ _ h => h) (Or.inr ⟨by rfl, rfl⟩) ?_ ?_
    rotate_left
    ·exact zP
    refine pure_ (i := 50) (N := some 84) (v := undef) (a' := ?_) impl_isFactoring.m51 rfl rfl zA (fun _ _ _ h => h) (Or.inr ⟨by rfl, rfl⟩) ?_ ?_
    rotate_left
    ·exact zP
    refine pure_ (i := 51) (N := some 85) (v := ?_) (a' := ?_) impl_isFactoring.m52 rfl rfl zA (fun _ _ _ h => h) (Or.inl ⟨by rfl, ?_⟩) ?_ ?_
    rotate_left
    ·intro w'
     go_simp
     with_reducible rfl
    rotate_left
    ·exact zP
    refine pure_ (i := 52) (N := some 6) (v := ?_) (a' := ?_) impl_isFactoring.m53 rfl rfl zA (fun _ _ _ h => h) (Or.inl ⟨by rfl, ?_⟩) ?_ ?_
    rotate_left
    ·intro w'
     go_simp
     with_reducible rfl
    rotate_left
    ·exact zP
    refine done_ (done_of HT_.out (by kernel_rfl)) ?_
    try go_wp2
    go_ret
    exact ⟨by first | rfl | (simp [errW_none, errW_some] <;> rfl) | (simp only [← hji12, ← hji20]; first | rfl | (simp [errW_none, errW_some] <;> rfl)) | (simp [*, errW_none, errW_some] <;> rfl), zB⟩
   rw [if_pos c28] at H
   have c28b0 : ((a0.extract ((ji20) : Int).toNat ((wrap64 ((ji20) + a2)) : Int).toNat).toList == t156.toList) = true := beq_iff_eq.mpr c28
   have c28b1 : ((a0.extract ((ji20) : Int).toNat ((wrap64 ((ji20) + a2)) : Int).toNat).toList != t156.toList) = false := bne_eq_false_iff_eq.mpr c28
   clear c28
   obtain ⟨ji29, hji29⟩ : ∃ j_ : Int, (wrap64 ((ji20) + a2)) = j_ := ⟨_, rfl⟩
   replace H : (if 0 ≤ (ji29) then (if 0 ≤ (wrap64 (a1 + a2)) then (if (wrap64 (a1 + a2)) ≤ (ji12) then (if (ji12) ≤ (a0.size : Int) then ((impl_backWord.f (a0.extract ((wrap64 (a1 + a2)) : Int).toNat ((ji12) : Int).toNat)).bind fun t157 => (some ((a0.extract ((ji29) : Int).toNat a0.size).toList == t157.toList))) else (none)) else (none)) else (none)) else (none)) = some r := by first | (rw [hji29] at H; exact H) | (simp only [hji29] at H ⊢; exact H)
   (try rw [hji29] at c22b0)
   (try rw [hji29] at c22b1)
   (try rw [hji29] at c22)
   (try rw [hji29] at c23b0)
   (try rw [hji29] at c23b1)
   (try rw [hji29] at c23)
   (try rw [hji29] at c28b0)
   (try rw [hji29] at c28b1)
   (try rw [hji29] at A18)
   (try rw [hji29] at A27)
   have hji29w : (IntKind.i64.wrap ((ji20) + a2)) = ji29 := (i64_w _).trans hji29
   by_cases c30 : 0 ≤ (ji29)
   rotate_left
   ·rw [if_neg c30] at H
    exact absurd H (by simp)
   rw [if_pos c30] at H
   have c30b0 := eq_true c30
   have c30b1 : decide (0 ≤ (ji29)) = true := decide_eq_true c30
   clear c30
   have c31b0 := eq_true (zD : (ji29) ≤ (a0.size : Int))
   obtain ⟨ji32, hji32⟩ : ∃ j_ : Int, (wrap64 (a1 + a2)) = j_ := ⟨_, rfl⟩
   replace H : (if 0 ≤ (ji32) then (if (ji32) ≤ (ji12) then (if (ji12) ≤ (a0.size : Int) then ((impl_backWord.f (a0.extract ((ji32) : Int).toNat ((ji12) : Int).toNat)).bind fun t157 => (some ((a0.extract ((ji29) : Int).toNat a0.size).toList == t157.toList))) else (none)) else (none)) else (none)) = some r := by first | (rw [hji32] at H; exact H) | (simp only [hji32] at H ⊢; exact H)
   (try rw [hji32] at c25b0)
   (try rw [hji32] at c25b1)
   (try rw [hji32] at c25)
   (try rw [hji32] at c26b0)
   (try rw [hji32] at c26b1)
   (try rw [hji32] at c26)
   (try rw [hji32] at A18)
   (try rw [hji32] at A27)
   have hji32w : (IntKind.i64.wrap (a1 + a2)) = ji32 := (i64_w _).trans hji32
   by_cases c33 : 0 ≤ (ji32)
   rotate_left
   ·rw [if_neg c33] at H
    exact absurd H (by simp)
   rw [if_pos c33] at H
   have c33b0 := eq_true c33
   have c33b1 : decide (0 ≤ (ji32)) = true := decide_eq_true c33
   clear c33
   by_cases c34 : (ji32) ≤ (ji12)
   rotate_left
   ·rw [if_neg c34] at H
    exact absurd H (by simp)
   rw [if_pos c34] at H
   have c34b0 := eq_true c34
   have c34b1 : decide ((ji32) ≤ (ji12)) = true := decide_eq_true c34
   clear c34
   by_cases c35 : (ji12) ≤ (a0.size : Int)
   rotate_left
   ·rw [if_neg c35] at H
    exact absurd H (by simp)
   rw [if_pos c35] at H
   have c35b0 := eq_true c35
   have c35b1 : decide ((ji12) ≤ (a0.size : Int)) = true := decide_eq_true c35
   clear c35
   replace H := ob H
   obtain ⟨t157, A360, H⟩ := H
   (try dsimp only at H)
   have A36 := am A360
   clear A360
   obtain rfl := oi H
   try go_wp2
   have n0_ := am (Kd.R_drew HO_23.out)
   have n1_ := am (Bb3 HB.out)
   clear HO_23
   clear HB
   have HO_23 := n0_
   have HB := n1_
   clear n0_ n1_
   refine start_ (n := 53) (S := fun w' => True) (ds := []) impl_isFactoring.m0 (by kernel_rfl) rfl rfl trivial (fun hHeld => ?_); refine with_tabW impl_isFactoring.tab10 impl_isFactoring.bits10 (fun HT_ HW_ => ?_)
   generalize wr.drew = w37 at HO_23 HB hHeld ⊢
   refine pure_ (i := 0) (N := some 34) (v := ?_) (a' := ?_) impl_isFactoring.m1 rfl rfl zA (fun _ _ _ h => h) (Or.inl ⟨by rfl, ?_⟩) ?_ ?_
   rotate_left
   ·intro w'
    go_simp
    with_reducible rfl
   rotate_left
   ·exact zP
   refine pure_ (i := 1) (N := some 35) (v := ?_) (a' := ?_) impl_isFactoring.m2 rfl rfl zA (fun _ _ _ h => h) (Or.inl ⟨by rfl, ?_⟩) ?_ ?_
   rotate_left
   ·intro w'
    go_simp
    with_reducible rfl
   rotate_left
   ·exact zP
   refine pure_ (i := 2) (N := some 36) (v := ?_) (a' := ?_) impl_isFactoring.m3 rfl rfl zA (fun _ _ _ h => h) (Or.inl ⟨by rfl, ?_⟩) ?_ ?_
   rotate_left
   ·intro w'
    go_simp
    with_reducible rfl
   rotate_left
   ·exact zP
   refine pure_ (i := 3) (N := some 37) (v := ?_) (a' := ?_) impl_isFactoring.m4 rfl rfl zA (fun _ _ _ h => h) (Or.inl ⟨by rfl, ?_⟩) ?_ ?_
   rotate_left
   ·intro w'
    go_simp
    with_reducible rfl
   rotate_left
   ·exact zP
   refine pure_ (i := 4) (N := some 38) (v := ?_) (a' := ?_) impl_isFactoring.m5 rfl rfl zA (fun _ _ _ h => h) (Or.inl ⟨by rfl, ?_⟩) ?_ ?_
   rotate_left
   ·intro w'
    go_simp
    with_reducible rfl
   rotate_left
   ·exact zP
   refine pure_ (i := 5) (N := some 39) (v := ?_) (a' := ?_) impl_isFactoring.m6 rfl rfl zA (fun _ _ _ h => h) (Or.inl ⟨by rfl, ?_⟩) ?_ ?_
   rotate_left
   ·intro w'
    go_simp
    with_reducible rfl
   rotate_left
   ·exact zP
   refine pure_ (i := 6) (N := some 40) (v := ?_) (a' := ?_) impl_isFactoring.m7 rfl rfl zA (fun _ _ _ h => h) (Or.inl ⟨by rfl, ?_⟩) ?_ ?_
   rotate_left
   ·intro w'
    go_simp
    with_reducible rfl
   rotate_left
   ·exact zP
   refine pure_ (i := 7) (N := some 41) (v := ?_) (a' := ?_) impl_isFactoring.m8 rfl rfl zA (fun _ _ _ h => h) (Or.inl ⟨by rfl, ?_⟩) ?_ ?_
   rotate_left
   ·intro w'
    go_simp
    with_reducible rfl
   rotate_left
   ·exact zP
   refine pure_ (i := 8) (N := some 42) (v := ?_) (a' := ?_) impl_isFactoring.m9 rfl rfl zA (fun _ _ _ h => h) (Or.inl ⟨by rfl, ?_⟩) ?_ ?_
   rotate_left
   ·intro w'
    go_simp
    with_reducible rfl
   rotate_left
   ·exact zP
   refine pure_ (i := 9) (N := some 43) (v := ?_) (a' := ?_) impl_isFactoring.m10 rfl rfl zA (fun _ _ _ h => h) (Or.inl ⟨by rfl, ?_⟩) ?_ ?_
   rotate_left
   ·intro w'
    go_simp
    with_reducible rfl
   rotate_left
   ·exact zP
   refine pure_ (i := 10) (N := some 44) (v := ?_) (a' := ?_) impl_isFactoring.m11 rfl rfl zA (fun _ _ _ h => h) (Or.inl ⟨by rfl, ?_⟩) ?_ ?_
   rotate_left
   ·intro w'
    go_simp
    with_reducible rfl
   rotate_left
   ·exact zP
   refine pure_ (i := 11) (N := some 45) (v := ?_) (a' := ?_) impl_isFactoring.m12 rfl rfl zA (fun _ _ _ h => h) (Or.inl ⟨by rfl, ?_⟩) ?_ ?_
   rotate_left
   ·intro w'
    go_simp
    with_reducible rfl
   rotate_left
   ·exact zP
   refine one_ (i := 12) (N := some 46) impl_isFactoring.m13 rfl rfl (one_of HT_.out (by kernel_rfl)) (by decide) (fun K hK => ?_)
   refine goes_ Tryd.func34 (by kernel_rfl) rfl #[.string (a0.extract 0 (a1 : Int).toNat)] (by rfl) rfl rfl zL ?_
   with_reducible refine (impl_backWord.calls (a0.extract 0 (a1 : Int).toNat) t155 _ A18.out).mono ?_
   rintro e w38 ⟨rfl, hb⟩
   refine ⟨_, rfl, ?_⟩
   have n0_ := am (Kd.R_below (zR HO_23) hb)
   have n1_ := am (Bb6 zB hb)
   clear HO_23
   clear HB
   have HO_23 := n0_
   have HB := n1_
   clear n0_ n1_
   (try clear hb)
   (try clear hb2)
   (try clear hk)
   (try clear hi)
   refine hK.out _ _ trivial (fun hHeld => ?_)
   clear hK K
   refine norm_ (a' := ?_) ?_ ?_
   rotate_left
   ·show Act.put _ (some 46) _ = _
    simp only [Act.put, sa, i64_w, i32_w]
    rfl
   refine pure_ (i := 13) (N := some 47) (v := ?_) (a' := ?_) impl_isFactoring.m14 rfl rfl zA (fun _ _ _ h => h) (Or.inl ⟨by rfl, ?_⟩) ?_ ?_
   rotate_left
   ·intro w'
    go_simp
    with_reducible rfl
   rotate_left
   ·exact zP
   refine pure_ (i := 14) (N := some 48) (v := ?_) (a' := ?_) impl_isFactoring.m15 rfl rfl zA (fun _ _ _ h => h) (Or.inl ⟨by rfl, ?_⟩) ?_ ?_
   rotate_left
   ·intro w'
    go_simp
    with_reducible rfl
   rotate_left
   ·exact zP
   refine pure_ (i := 15) (N := some 49) (v := ?_) (a' := ?_) impl_isFactoring.m16 rfl rfl zA (fun _ _ _ h => h) (Or.inl ⟨by rfl, ?_⟩) ?_ ?_
   rotate_left
   ·intro w'
    go_simp
    with_reducible rfl
   rotate_left
   ·exact zP
   refine pure_ (i := 16) (N := some 50) (v := ?_) (a' := ?_) impl_isFactoring.m17 rfl rfl zA (fun _ _ _ h => h) (Or.inl ⟨by rfl, ?_⟩) ?_ ?_
   rotate_left
   ·intro w'
    go_simp
    with_reducible rfl
   rotate_left
   ·exact zP
   refine pure_ (i := 17) (N := some 51) (v := ?_) (a' := ?_) impl_isFactoring.m18 rfl rfl zA (fun _ _ _ h => h) (Or.inl ⟨by rfl, ?_⟩) ?_ ?_
   rotate_left
   ·intro w'
    go_simp
    with_reducible rfl
   rotate_left
   ·exact zP
   refine pure_ (i := 18) (N := some 52) (v := ?_) (a' := ?_) impl_isFactoring.m19 rfl rfl zA (fun _ _ _ h => h) (Or.inl ⟨by rfl, ?_⟩) ?_ ?_
   rotate_left
   ·intro w'
    go_simp
    with_reducible rfl
   rotate_left
   ·exact zP
   refine pure_ (i := 19) (N := some 53) (v := ?_) (a' := ?_) impl_isFactoring.m20 rfl rfl zA (fun _ _ _ h => h) (Or.inl ⟨by rfl, ?_⟩) ?_ ?_
   rotate_left
   ·intro w'
    go_simp
    with_reducible rfl
   rotate_left
   ·exact zP
   refine pure_ (i := 20) (N := some 54) (v := ?_) (a' := ?_) impl_isFactoring.m21 rfl rfl zA (fun _ _ _ h => h) (Or.inl ⟨by rfl, ?_⟩) ?_ ?_
   rotate_left
   ·intro w'
    go_simp
    with_reducible rfl
   rotate_left
   ·exact zP
   refine pure_ (i := 21) (N := some 55) (v := ?_) (a' := ?_) impl_isFactoring.m22 rfl rfl zA (fun _ _ _ h => h) (Or.inl ⟨by rfl, ?_⟩) ?_ ?_
   rotate_left
   ·intro w'
    go_simp
    with_reducible rfl
   rotate_left
   ·exact zP
   refine pure_ (i := 22) (N := some 56) (v := ?_) (a' := ?_) impl_isFactoring.m23 rfl rfl zA (fun _ _ _ h => h) (Or.inl ⟨by rfl, ?_⟩) ?_ ?_
   rotate_left
   ·intro w'
    go_simp
    with_reducible rfl
   rotate_left
   ·exact zP
   refine pure_ (i := 23) (N := some 57) (v := ?_) (a' := ?_) impl_isFactoring.m24 rfl rfl zA (fun _ _ _ h => h) (Or.inl ⟨by rfl, ?_⟩) ?_ ?_
   rotate_left
   ·intro w'
    go_simp
    with_reducible rfl
   rotate_left
   ·exact zP
   refine pure_ (i := 24) (N := some 58) (v := ?_) (a' := ?_) impl_isFactoring.m25 rfl rfl zA (fun _ _ _ h => h) (Or.inl ⟨by rfl, ?_⟩) ?_ ?_
   rotate_left
   ·intro w'
    go_simp
    with_reducible rfl
   rotate_left
   ·exact zP
   refine pure_ (i := 25) (N := some 59) (v := ?_) (a' := ?_) impl_isFactoring.m26 rfl rfl zA (fun _ _ _ h => h) (Or.inl ⟨by rfl, ?_⟩) ?_ ?_
   rotate_left
   ·intro w'
    go_simp
    with_reducible rfl
   rotate_left
   ·exact zP
   refine pure_ (i := 26) (N := some 60) (v := ?_) (a' := ?_) impl_isFactoring.m27 rfl rfl zA (fun _ _ _ h => h) (Or.inl ⟨by rfl, ?_⟩) ?_ ?_
   rotate_left
   ·intro w'
    go_simp
    with_reducible rfl
   rotate_left
   ·exact zP
   refine pure_ (i := 27) (N := some 61) (v := ?_) (a' := ?_) impl_isFactoring.m28 rfl rfl zA (fun _ _ _ h => h) (Or.inl ⟨by rfl, ?_⟩) ?_ ?_
   rotate_left
   ·intro w'
    go_simp
    with_reducible rfl
   rotate_left
   ·exact zP
   refine pure_ (i := 28) (N := some 62) (v := ?_) (a' := ?_) impl_isFactoring.m29 rfl rfl zA (fun _ _ _ h => h) (Or.inl ⟨by rfl, ?_⟩) ?_ ?_
   rotate_left
   ·intro w'
    go_simp
    with_reducible rfl
   rotate_left
   ·exact zP
   refine pure_ (i := 29) (N := some 63) (v := ?_) (a' := ?_) impl_isFactoring.m30 rfl rfl zA (fun _ _ _ h => h) (Or.inl ⟨by rfl, ?_⟩) ?_ ?_
   rotate_left
   ·intro w'
    go_simp
    with_reducible rfl
   rotate_left
   ·exact zP
   refine pure_ (i := 30) (N := some 64) (v := ?_) (a' := ?_) impl_isFactoring.m31 rfl rfl zA (fun _ _ _ h => h) (Or.inl ⟨by rfl, ?_⟩) ?_ ?_
   rotate_left
   ·intro w'
    go_simp
    with_reducible rfl
   rotate_left
   ·exact zP
   refine pure_ (i := 31) (N := some 65) (v := ?_) (a' := ?_) impl_isFactoring.m32 rfl rfl zA (fun _ _ _ h => h) (Or.inl ⟨by rfl, ?_⟩) ?_ ?_
   rotate_left
   ·intro w'
    go_simp
    with_reducible rfl
   rotate_left
   ·exact zP
   refine one_ (i := 32) (N := some 66) impl_isFactoring.m33 rfl rfl (one_of HT_.out (by kernel_rfl)) (by decide) (fun K hK => ?_)
   refine goes_ Tryd.func34 (by kernel_rfl) rfl #[.string (a0.extract (a1 : Int).toNat ((ji32) : Int).toNat)] (by rfl) rfl rfl (by (try simp only [List.map_toArray, List.map_cons, List.map_nil]); first | done | (simp only [hji32]; rfl) | rfl | (simp only [List.length_drop, List.length_take]; rfl)) ?_
   with_reducible refine (impl_backWord.calls (a0.extract (a1 : Int).toNat ((ji32) : Int).toNat) t156 _ A27.out).mono ?_
   rintro e w39 ⟨rfl, hb⟩
   refine ⟨_, rfl, ?_⟩
   have n0_ := am (Kd.R_below (zR HO_23) hb)
   have n1_ := am (Bb6 zB hb)
   clear HO_23
   clear HB
   have HO_23 := n0_
   have HB := n1_
   clear n0_ n1_
   (try clear hb)
   (try clear hb2)
   (try clear hk)
   (try clear hi)
   refine hK.out _ _ trivial (fun hHeld => ?_)
   clear hK K
   refine norm_ (a' := ?_) ?_ ?_
   rotate_left
   ·show Act.put _ (some 66) _ = _
    simp only [Act.put, sa, i64_w, i32_w]
    rfl
   refine pure_ (i := 33) (N := some 67) (v := ?_) (a' := ?_) impl_isFactoring.m34 rfl rfl zA (fun _ _ _ h => h) (Or.inl ⟨by rfl, ?_⟩) ?_ ?_
   rotate_left
   ·intro w'
    go_simp
    with_reducible rfl
   rotate_left
   ·exact zP
   refine pure_ (i := 34) (N := some 68) (v := ?_) (a' := ?_) impl_isFactoring.m35 rfl rfl zA (fun _ _ _ h => h) (Or.inl ⟨by rfl, ?_⟩) ?_ ?_
   rotate_left
   ·intro w'
    go_simp
    with_reducible rfl
   rotate_left
   ·exact zP
   refine pure_ (i := 35) (N := some 69) (v := ?_) (a' := ?_) impl_isFactoring.m36 rfl rfl zA (fun _ _ _ h => h) (Or.inl ⟨by rfl, ?_⟩) ?_ ?_
   rotate_left
   ·intro w'
    go_simp
    with_reducible rfl
   rotate_left
   ·exact zP
   refine pure_ (i := 36) (N := some 70) (v := ?_) (a' := ?_) impl_isFactoring.m37 rfl rfl zA (fun _ _ _ h => h) (Or.inl ⟨by rfl, ?_⟩) ?_ ?_
   rotate_left
   ·intro w'
    go_simp
    with_reducible rfl
   rotate_left
   ·exact zP
   refine pure_ (i := 37) (N := some 71) (v := ?_) (a' := ?_) impl_isFactoring.m38 rfl rfl zA (fun _ _ _ h => h) (Or.inl ⟨by rfl, ?_⟩) ?_ ?_
   rotate_left
   ·intro w'
    go_simp
    with_reducible rfl
   rotate_left
   ·exact zP
   refine pure_ (i := 38) (N := some 72) (v := ?_) (a' := ?_) impl_isFactoring.m39 rfl rfl zA (fun _ _ _ h => h) (Or.inl ⟨by rfl, ?_⟩) ?_ ?_
   rotate_left
   ·intro w'
    go_simp
    with_reducible rfl
   rotate_left
   ·exact zP
   refine pure_ (i := 39) (N := some 73) (v := ?_) (a' := ?_) impl_isFactoring.m40 rfl rfl zA (fun _ _ _ h => h) (Or.inl ⟨by rfl, ?_⟩) ?_ ?_
   rotate_left
   ·intro w'
    go_simp
    with_reducible rfl
   rotate_left
   ·exact zP
   refine pure_ (i := 40) (N := some 74) (v := ?_) (a' := ?_) impl_isFactoring.m41 rfl rfl zA (fun _ _ _ h => h) (Or.inl ⟨by rfl, ?_⟩) ?_ ?_
   rotate_left
   ·intro w'
    go_simp
    with_reducible rfl
   rotate_left
   ·exact zP
   refine pure_ (i := 41) (N := some 75) (v := ?_) (a' := ?_) impl_isFactoring.m42 rfl rfl zA (fun _ _ _ h => h) (Or.inl ⟨by rfl, ?_⟩) ?_ ?_
   rotate_left
   ·intro w'
    go_simp
    with_reducible rfl
   rotate_left
   ·exact zP
   refine pure_ (i := 42) (N := some 76) (v := ?_) (a' := ?_) impl_isFactoring.m43 rfl rfl zA (fun _ _ _ h => h) (Or.inl ⟨by rfl, ?_⟩) ?_ ?_
   rotate_left
   ·intro w'
    go_simp
    with_reducible rfl
   rotate_left
   ·exact zP
   refine pure_ (i := 43) (N := some 77) (v := ?_) (a' := ?_) impl_isFactoring.m44 rfl rfl zA (fun _ _ _ h => h) (Or.inl ⟨by rfl, ?_⟩) ?_ ?_
   rotate_left
   ·intro w'
    go_simp
    with_reducible rfl
   rotate_left
   ·exact zP
   refine pure_ (i := 44) (N := some 78) (v := ?_) (a' := ?_) impl_isFactoring.m45 rfl rfl zA (fun _ _ _ h => h) (Or.inl ⟨by rfl, ?_⟩) ?_ ?_
   rotate_left
   ·intro w'
    go_simp
    with_reducible rfl
   rotate_left
   ·exact zP
   refine pure_ (i := 45) (N := some 79) (v := ?_) (a' := ?_) impl_isFactoring.m46 rfl rfl zA (fun _ _ _ h => h) (Or.inl ⟨by rfl, ?_⟩) ?_ ?_
   rotate_left
   ·intro w'
    go_simp
    with_reducible rfl
   rotate_left
   ·exact zP
   refine pure_ (i := 46) (N := some 80) (v := ?_) (a' := ?_) impl_isFactoring.m47 rfl rfl zA (fun _ _ _ h => h) (Or.inl ⟨by rfl, ?_⟩) ?_ ?_
   rotate_left
   ·intro w'
    go_simp
    with_reducible rfl
   rotate_left
   ·exact zP
   refine pure_ (i := 47) (N := some 81) (v := ?_) (a' := ?_) impl_isFactoring.m48 rfl rfl zA (fun _ _ _ h => h) (Or.inl ⟨by rfl, ?_⟩) ?_ ?_
   rotate_left
   ·intro w'
    go_simp
    with_reducible rfl
   rotate_left
   ·exact zP
   refine pure_ (i := 48) (N := some 82) (v := ?_) (a' := ?_) impl_isFactoring.m49 rfl rfl zA (fun _ _ _ h => h) (Or.inl ⟨by rfl, ?_⟩) ?_ ?_
   rotate_left
   ·intro w'
    go_simp
    with_reducible rfl
   rotate_left
   ·exact zP
   refine one_ (i := 49) (N := some 83) impl_isFactoring.m50 rfl rfl (one_of HT_.out (by kernel_rfl)) (by decide) (fun K hK => ?_)
   refine goes_ Tryd.func34 (by kernel_rfl) rfl #[.string (a0.extract ((ji32) : Int).toNat ((ji12) : Int).toNat)] (by rfl) rfl rfl (by (try simp only [List.map_toArray, List.map_cons, List.map_nil]); first | done | (simp only [hji12, hji32]; rfl) | rfl | (simp only [List.length_drop, List.length_take]; rfl)) ?_
   with_reducible refine (impl_backWord.calls (a0.extract ((ji32) : Int).toNat ((ji12) : Int).toNat) t157 _ A36.out).mono ?_
   rintro e w40 ⟨rfl, hb⟩
   refine ⟨_, rfl, ?_⟩
   have n0_ := am (Kd.R_below (zR HO_23) hb)
   have n1_ := am (Bb6 zB hb)
   clear HO_23
   clear HB
   have HO_23 := n0_
   have HB := n1_
   clear n0_ n1_
   (try clear hb)
   (try clear hb2)
   (try clear hk)
   (try clear hi)
   refine hK.out _ _ trivial (fun hHeld => ?_)
   clear hK K
   refine norm_ (a' := ?_) ?_ ?_
   rotate_left
   ·show Act.put _ (some 83) _ = _
    simp only [Act.put, sa, i64_w, i32_w]
    rfl
   refine pure_ (i := 50) (N := some 84) (v := ?_) (a' := ?_) impl_isFactoring.m51 rfl rfl zA (fun _ _ _ h => h) (Or.inl ⟨by rfl, ?_⟩) ?_ ?_
   rotate_left
   ·intro w'
    go_simp
    with_reducible rfl
   rotate_left
   ·exact zP
   refine pure_ (i := 51) (N := some 85) (v := ?_) (a' := ?_) impl_isFactoring.m52 rfl rfl zA (fun _ _ _ h => h) (Or.inl ⟨by rfl, ?_⟩) ?_ ?_
   rotate_left
   ·intro w'
    go_simp
    with_reducible rfl
   rotate_left
   ·exact zP
   refine pure_ (i := 52) (N := some 6) (v := ?_) (a' := ?_) impl_isFactoring.m53 rfl rfl zA (fun _ _ _ h => h) (Or.inl ⟨by rfl, ?_⟩) ?_ ?_
   rotate_left
   ·intro w'
    go_simp
    with_reducible rfl
   rotate_left
   ·exact zP
   refine done_ (done_of HT_.out (by kernel_rfl)) ?_
   try go_wp2
   go_ret
   exact ⟨by first | rfl | (simp [errW_none, errW_some] <;> rfl) | (simp only [← hji12, ← hji20, ← hji29, ← hji32]; first | rfl | (simp [errW_none, errW_some] <;> rfl)) | (simp [*, errW_none, errW_some] <;> rfl), zB⟩

end Go.Proofs.YtcgnnfaemjjljaaDoor.Q
