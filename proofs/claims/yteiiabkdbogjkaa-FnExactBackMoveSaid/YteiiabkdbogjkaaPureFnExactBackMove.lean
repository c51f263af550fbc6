/- The law FnExactBackMove: the program's BackMove returns what the reference's returns, for every move; no condition. -/
import Derived.Test.YteiiabkdbogjkaaPFnExactBackMovex1
namespace Go.Proofs.Yteiiabkdbogjkaa.Pure
open Go.RowKit Go.Proofs.Yteiiabkdbogjkaa.PFnExactBackMove Go.Proofs.YteiiabkdbogjkaaW.PrintWords Go.Proofs.YteiiabkdbogjkaaW.PrintLast

theorem FnExactBackMove : laws_FnExactBackMove.Pure := by
  intro a0 _
  unfold laws_FnExactBackMove.f spec_BackMove.f impl_BackMove.f impl_isMove.f spec_l01In.f impl_within.f
  by_cases h : a0 ≥ 6
  · by_cases h2 : a0 ≤ 95
    · simp [h, h2]
    · simp [h, h2]
  · simp [h]

end Go.Proofs.Yteiiabkdbogjkaa.Pure
