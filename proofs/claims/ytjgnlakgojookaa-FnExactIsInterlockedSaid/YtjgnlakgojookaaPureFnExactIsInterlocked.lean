/- The law FnExactIsInterlocked: the program's IsInterlocked returns what the reference's returns, for every assembly; no condition. -/
import Derived.Test.YtjgnlakgojookaaVOffs
import Derived.Test.YtjgnlakgojookaaQ26
import Derived.Test.YtjgnlakgojookaaQGimplIsInterlocked
import Derived.Test.YtjgnlakgojookaaQ27
import Derived.Test.YtjgnlakgojookaaUFnExactIsInterlocked
import Derived.Test.YtjgnlakgojookaaQ0
import Derived.Test.YtjgnlakgojookaaOpn
namespace Go.Proofs.Ytjgnlakgojookaa.Pure
open Go.RowKit Go.Proofs.Ytjgnlakgojookaa Go.Proofs.Ytjgnlakgojookaa.Q Go.Proofs.Ytjgnlakgojookaa.UFnExactIsInterlocked Go.Proofs.YtjgnlakgojookaaW.PrintWords
set_option linter.unusedVariables false
set_option linter.unusedSimpArgs false

theorem isInterlocked_both {l : List (List Cube)} (hL : LQ l) : Both (fun k => spec_IsInterlocked.f k l) (fun k => impl_IsInterlocked.f k l) := by
  unfold spec_IsInterlocked.f impl_IsInterlocked.f
  refine Both.bindl (isAssembly_spec l hL) (Both.bindr (isAssembly_impl l hL) ?_)
  cases hA : asm l
  · exact Both.nl (by simp) (Both.nr (by simp) Both.pure)
  · have hP := asm_pts hA
    have h1 := hP.lo
    have h2 := hP.hi
    refine Both.pl rfl (Both.pr rfl (Both.pr ⟨hP.hi, by omega⟩ (Both.pl (by omega) (Both.pl (by omega) ?_))))
    rw [Int.toNat_natCast]
    refine Both.bindl (l27Free_eq hP (o := List.replicate l.length z71) (by simp) (fun c hc => ?_)) Both.pure
    rw [(List.mem_replicate.1 hc).2]
    unfold sm z71
    simp
theorem FnExactIsInterlocked : laws_FnExactIsInterlocked_Pure := by
  intro l hl
  apply Evt.out
  unfold laws_FnExactIsInterlocked.f
  obtain ⟨r, h1, h2⟩ := szAssembly_eq l 1048576 (by omega) (by omega) hl.1 (fun c hc => (hl.2 c hc).1)
  refine h1.bind ?_
  by_cases hneg : r < 0
  · exact Evt.ite_pos hneg Evt.pure
  · obtain ⟨hL, _⟩ := h2 (by omega)
    refine Evt.ite_neg hneg ?_
    obtain ⟨b, b1, b2⟩ := isInterlocked_both hL.to
    refine (toAssembly_eq l hL).bind (b1.bind ((toAssembly_eq l hL).bind (b2.bind ?_)))
    refine Evt.ite_neg (by simp) ((toAssembly_eq l hL).bind ((eqAssembly_refl _ hL.to).bind (Evt.ite_pos rfl Evt.pure)))
end Go.Proofs.Ytjgnlakgojookaa.Pure
