/- The law FnExactIsLattice: the program's IsLattice returns what the reference's returns, for every lattice; no condition. -/
import Derived.Test.YteiiabkdbogjkaaUFnExactIsLattice
namespace Go.Proofs.Yteiiabkdbogjkaa.Pure
open Go.RowKit Go.Proofs.Yteiiabkdbogjkaa Go.Proofs.Yteiiabkdbogjkaa.Q Go.Proofs.Yteiiabkdbogjkaa.UFnExactIsLattice Go.Proofs.YteiiabkdbogjkaaW.PrintWords Go.Proofs.YteiiabkdbogjkaaW.PrintLast

theorem within_In (a b c : Int) : impl_within.f a b c = spec_l01In.f a b c := rfl
theorem FnExactIsLattice : laws_FnExactIsLattice_Pure := by
  intro a0 a1 a2 _ _ _
  have e : impl_IsLattice.f a0 a1 a2 = spec_IsLattice.f a0 a1 a2 := rfl
  have hs : ∀ b : Int × Int × Int, ∃ r, spec_l01In.f b.1 b.2.1 b.2.2 = some r := by
    intro b
    unfold spec_l01In.f
    split <;> exact ⟨_, rfl⟩
  have h : ∃ r, spec_IsLattice.f a0 a1 a2 = some r := by
    unfold spec_IsLattice.f
    obtain ⟨r1, h1⟩ := hs (a0, 1, 40)
    obtain ⟨r2, h2⟩ := hs (a2, 1, 40)
    obtain ⟨r3, h3⟩ := hs (a1, 0, wrap64 (a0 - 1))
    simp only at h1 h2 h3
    rw [h1, h2, h3]
    cases r1 <;> cases r2 <;> simp
  obtain ⟨r, h⟩ := h
  unfold laws_FnExactIsLattice.f laws_toLattice.f
  simp [e, h]

end Go.Proofs.Yteiiabkdbogjkaa.Pure
