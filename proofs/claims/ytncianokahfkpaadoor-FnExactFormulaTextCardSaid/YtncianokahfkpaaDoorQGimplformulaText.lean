/- Written by a program of this session (wip/tools/pp.py) out of the translation, with the kit's printer. -/
import Derived.Test.YtncianokahfkpaaDoorQ0
import Derived.Test.YtncianokahfkpaaDoorQGimplclausesText
import Derived.Test.YtncianokahfkpaaDoorQGimplnumbersText
import Derived.Deep.RegionHeld3
import Derived.Shelf.Strings.OnBuilder
namespace Go.Proofs.YtncianokahfkpaaDoor.Q
open Go.RowKit Go.Proofs.YtncianokahfkpaaDoorW.PrintWords Go.Proofs.YtncianokahfkpaaDoorW.PrintLast Go.Proofs.YtncianokahfkpaaDoorW.PrintMore
attribute [local go_sem] max2_int min2_int max_two min_two max_three min_three max_four min_four
set_option linter.unusedVariables false
set_option linter.unusedSimpArgs false

/-! ### impl_formulaText: walked by hand -/
def impl_formulaText.head (a : Int) (n : Nat) : List UInt8 := [112, 32, 99, 110, 102, 32] ++ (Lib.join [Lib.itoa a, Lib.itoa n] [32]) ++ [10]
theorem two_C (W : World) (a b : Int) (e : TypeId) : Kd.C (Kd.int .i64) (W.alloc (.cells #[.int .i64 a, .int .i64 b] e)) (some ⟨W.heap.size, 0, none⟩) ([a, b] : List Int).length [a, b] :=
  (Kd.R_reads' (d := Kd.int .i64) (Kd.R_of_own (enc := Value.int .i64) (h1 := fun _ => rfl) (ok := fun _ => True) (own_lit W 0 e .i64 [a, b] (Nat.zero_le _) (by simp)) (fun _ _ => trivial))).2.2
theorem arr_app' (a b : List UInt8) : (⟨a.toArray⟩ : ByteArray) ++ ⟨b.toArray⟩ = ⟨(a ++ b).toArray⟩ := by
  apply ByteArray.ext
  simp
theorem join_two (x y s : List UInt8) : Lib.join [x, y] s = x ++ (s ++ y) := by
  first | rfl | simp [Lib.join]
set_option maxHeartbeats 4000000 in
theorem impl_formulaText.calls (a : Int) (A : Option Addr) (c : Nat) (l : List (List Int)) (w : World) (hr : Kd.C (Kd.slice 2 (Kd.int .i64)) w A l.length l) (hc : l.length ≤ c)
    (htab : Lib.TabIs Tryd.prog w "internal/strconv.uint64pow10" .u64 Lib.pow10Tab) (ha : -9223372036854775808 ≤ a ∧ a ≤ 9223372036854775807)
    (h1 : ∀ x ∈ l, ∀ n ∈ x, -9223372036854775808 ≤ n ∧ n ≤ 9223372036854775807) (h2 : (impl_clausesText.text l).length ≤ 140737488355328) :
    Calls Tryd.prog 25 #[.agg #[.int .i64 a, .slice A l.length c]] w fun e w' => e = .returned (.string ⟨(impl_formulaText.head a l.length ++ impl_clausesText.text l).toArray⟩) ∧ Below w.heap.size w w' := by
  have hlen := hr.2.1
  have HR := Aside0.mk hr
  have HT := Aside0.mk htab
  have hu29 := Tryd.underlying29
  have HB1 := Aside0.mk (below_alloc (Below.refl w.heap.size w) (.cells #[.int .i64 a, .slice A l.length c] 29))
  have HBOX := Aside0.mk (heap_alloc_new w (.cells #[.int .i64 a, .slice A l.length c] 29 (0, 0)))
  clear hr htab
  have li1 := Lib.itoa_length_le a ha.1 ha.2
  have li2 := Lib.itoa_length_le (l.length : Int) (by omega) (by omega)
  have hj3 : (Lib.join ([a, (l.length : Int)].map Lib.itoa) (⟨#[32]⟩ : ByteArray).data.toList).length ≤ 140737488355328 := by
    show (Lib.join [Lib.itoa a, Lib.itoa (l.length : Int)] [32]).length ≤ _
    rw [join_two]
    simp only [List.length_append, List.length_singleton]
    omega
  have hk3 : ∀ n ∈ [a, (l.length : Int)], -9223372036854775808 ≤ n ∧ n ≤ 9223372036854775807 := by
    intro n hn
    simp only [List.mem_cons, List.not_mem_nil, or_false] at hn
    rcases hn with rfl | rfl <;> omega
  obtain ⟨J, hJ⟩ : ∃ J, J = Lib.join ([a, (l.length : Int)].map Lib.itoa) (⟨#[32]⟩ : ByteArray).data.toList := ⟨_, rfl⟩
  obtain ⟨T, hT⟩ : ∃ T, T = impl_clausesText.text l := ⟨_, rfl⟩
  obtain ⟨X, hX⟩ : ∃ X, X = [112, 32, 99, 110, 102, 32] ++ J := ⟨_, rfl⟩
  obtain ⟨Y, hY⟩ : ∃ Y, Y = X ++ [10] := ⟨_, rfl⟩
  have lj : J.length ≤ 100 := by
    rw [hJ]
    show (Lib.join [Lib.itoa a, Lib.itoa (l.length : Int)] [32]).length ≤ _
    rw [join_two]
    simp only [List.length_append, List.length_singleton]
    omega
  have lx : X.length = 6 + J.length := by rw [hX]; simp; omega
  have ly : Y.length = 7 + J.length := by rw [hY, List.length_append, List.length_singleton]; omega
  have e1 : (⟨#[112, 32, 99, 110, 102, 32]⟩ : ByteArray) ++ ⟨J.toArray⟩ ++ ⟨#[10]⟩ ++ ⟨T.toArray⟩ = ⟨(Y ++ T).toArray⟩ := by rw [hY, hX, ← arr_app' _ T, ← arr_app' _ [10], ← arr_app' _ J]
  have k1 : (9223372036854775807 < 6 + J.length) = False := eq_false (by omega)
  have k2 : (9223372036854775807 < 6 + J.length + 1) = False := eq_false (by omega)
  have k3 : (9223372036854775807 < 6 + J.length + 1 + T.length) = False := eq_false (by rw [hT]; omega)
  have E1 := Aside0.mk e1
  clear e1
  have hfin : impl_formulaText.head a l.length ++ impl_clausesText.text l = Y ++ T := by
    rw [hT, hY, hX, hJ]
    rfl
  rw [hfin]
  have HJ := Aside0.mk hJ
  have HTT := Aside0.mk hT
  clear hJ hT hX hY hfin li1 li2
  have hC : Kd.C (Kd.int .i64) ((w.alloc (.cells #[.int .i64 a, .slice A l.length c] 29)).alloc (.cells #[.int .i64 a, .int .i64 (l.length : Int)] 2)) (some ⟨w.heap.size + 1, 0, none⟩) [a, (l.length : Int)].length [a, (l.length : Int)] := by
    have h := two_C (w.alloc (.cells #[.int .i64 a, .slice A l.length c] 29)) a l.length 2
    rw [show (w.alloc (.cells #[.int .i64 a, .slice A l.length c] 29)).heap.size = w.heap.size + 1 by simp] at h
    exact h
  have HC := Aside0.mk hC
  have HK := Aside0.mk (And.intro hk3 hj3)
  have HB2 := Aside0.mk (below_alloc HB1.out (.cells #[.int .i64 a, .int .i64 (l.length : Int)] 2))
  clear hC hk3 hj3
  go_enter Tryd.func25, Tryd.ntmps25
  go_upto_region 1 with (fail)
  go_region_held3 (fun w' => w'.cell? ⟨w.heap.size, 0, none⟩ = some (.int .i64 a) ∧ w'.cell? ⟨w.heap.size, 1, none⟩ = some (.slice A l.length c))
    (first | go_keep | (go_split_ands; refine ⟨?_, ?_⟩ <;> exact pw_cell_below ‹Below _ _ _› (by assumption)) | (go_split_ands; exact pw_cell_below ‹Below _ _ _› (by assumption)))
    (first
      | (go_at_call 37; refine (impl_numbersText.calls _ 2 [a, (l.length : Int)] ⟨#[32]⟩ _ (Kd.C_below HC.out (by with_reducible repeat (first | exact Below.refl _ _ | apply below_drew1))) (by simp) (tab_below HT.out (by with_reducible repeat (first | exact HB2.out | apply below_drew1))) HK.out.1 (by simp) (by simp) HK.out.2).mono ?_; rw [← HJ.out]; rintro e w5 ⟨rfl, hb5⟩; have HB5 := Aside0.mk ((fun (W : World) (h : Below w.heap.size w W) (g : Below W.heap.size W w5) => below_step h g) _ (by with_reducible repeat (first | exact HB2.out | apply below_drew1)) hb5))
      | (go_at_call 20; refine (impl_clausesText.calls A c l _ (Kd.C_below HR.out (by with_reducible repeat (first | exact HB5.out | apply below_drew1))) hc (tab_below HT.out (by with_reducible repeat (first | exact HB5.out | apply below_drew1))) h1 h2).mono ?_; rw [← HTT.out]; rintro e w6 ⟨rfl, hb6⟩; have HB6 := Aside0.mk ((fun (W : World) (h : Below w.heap.size w W) (g : Below W.heap.size W w6) => below_step h g) _ (by with_reducible repeat (first | exact HB5.out | apply below_drew1)) hb6)))
  go_wp2
  rw [E1.out]
  go_ret
  exact ⟨rfl, HB6.out⟩

end Go.Proofs.YtncianokahfkpaaDoor.Q
