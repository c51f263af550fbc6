/- Written by a program of this session (wip/tools/pp.py) out of the translation, with the kit's printer. -/
import Derived.Test.YtncianokahfkpaaDoorQ0
import Derived.Test.YtncianokahfkpaaDoorQGimplclausesText
import Derived.LoopTactic
import Derived.Shelf.Strings.OnBuilder
import Derived.Test.YtncianokahfkpaaDoorShj
namespace Go.Proofs.YtncianokahfkpaaDoor.Q
open Go.RowKit Go.Proofs.YtncianokahfkpaaDoorW.PrintWords Go.Proofs.YtncianokahfkpaaDoorW.PrintLast Go.Proofs.YtncianokahfkpaaDoorW.PrintMore
attribute [local go_sem] max2_int min2_int max_two min_two max_three min_three max_four min_four
set_option linter.unusedVariables false
set_option linter.unusedSimpArgs false

/-! ### impl_numbersText: walked by hand over the shelf's strings.Join and strconv.FormatInt -/
def impl_numbersText.one (n : Int) : ByteArray := ⟨(Lib.itoa n).toArray⟩
theorem ownsRow_below {W W' : World} {B : Nat} {e : TypeId} {s n : Nat} {v : Value} {xs : List Value} (h : W.ownsRow B e s v n xs) (hb : Below W.heap.size W W') : W'.ownsRow B e s v n xs := own_move h (fun k hk => hb.block k (h.lt k hk).2)
theorem own_form {W : World} {B : Nat} {e : TypeId} {s n : Nat} {v : Value} {xs : List Value} (h : W.ownsRow B e s v n xs) : ∃ ao cap, v = .slice ao n cap := by
  rcases h.2 with ⟨hv, h0⟩ | ⟨g, cap, cur, hv, _⟩
  · exact ⟨none, 0, by rw [hv, h0]⟩
  · exact ⟨_, _, hv⟩
theorem own_fresh (w : World) (e : TypeId) (s : Nat) : (w.alloc (.cells #[] e)).ownsRow w.heap.size e s (.slice (some ⟨w.heap.size, 0, none⟩) 0 0) 0 [] :=
  ⟨by simp, .inr ⟨w.heap.size, 0, #[], rfl, Nat.le_refl _, heap_alloc_new w _, Nat.le_refl _, by simp [maxLen], by simp, by simp⟩⟩
set_option maxHeartbeats 1600000 in
theorem impl_numbersText.calls (A : Option Addr) (c : Nat) (l : List Int) (sep : ByteArray) (w : World) (hr : Kd.C (Kd.int .i64) w A l.length l) (hc : l.length ≤ c)
    (htab : Lib.TabIs Tryd.prog w "internal/strconv.uint64pow10" .u64 Lib.pow10Tab)
    (h1 : ∀ n ∈ l, -9223372036854775808 ≤ n ∧ n ≤ 9223372036854775807) (h0 : 0 < l.length) (h2 : l.length ≤ 1000000) (h3 : (Lib.join (l.map Lib.itoa) sep.data.toList).length ≤ 140737488355328) :
    Calls Tryd.prog 37 #[.slice A l.length c, .string sep] w fun e w' => e = .returned (.string ⟨(Lib.join (l.map Lib.itoa) sep.data.toList).toArray⟩) ∧ Below w.heap.size w w' := by
  have hlen := hr.2.1
  have HR := Aside0.mk hr
  have HT := Aside0.mk htab
  clear hr htab
  go_enter Tryd.func37, Tryd.ntmps37
  go_wp2
  go_loopw [5, 11] (fun v i wr => ∃ kk : Nat, kk ≤ l.length ∧ i = .int .i64 kk ∧ Aside0 (wr.ownsRow w.heap.size 9 1 v kk (encs Value.string ((l.take kk).map impl_numbersText.one))) ∧ Aside0 (Below w.heap.size w wr)) (fun _ i _ => l.length - (intOf i).toNat)
  case atStart =>
    refine ⟨0, Nat.zero_le _, rfl, ⟨?_⟩, ⟨?_⟩⟩
    · rw [show (encs Value.string ((l.take 0).map impl_numbersText.one)) = [] from rfl]
      exact own_fresh w 9 1
    · exact below_alloc (Below.refl _ _) _
  case round =>
    obtain ⟨kk, hk, rfl, HO, HBL⟩ := hrel
    obtain ⟨ao, cap, e5⟩ := own_form HO.out
    subst e5
    by_cases hlt : kk < l.length
    · obtain ⟨ad2, e2, hx⟩ := Kd.at_int HR.out (kk : Int) (by omega) (by omega)
      subst e2
      replace hx := pw_cell_below HBL.out hx
      have hd : l.take (kk + 1) = l.take kk ++ [rd l (kk : Int)] := by
        rw [List.take_succ_eq_append_getElem hlt]
        simp [rd, List.getD_eq_getElem?_getD, List.getElem?_eq_getElem hlt]
      have hm : rd l (kk : Int) ∈ l := by
        simp [rd, List.getD_eq_getElem?_getD, List.getElem?_eq_getElem hlt]
      have hn := h1 _ hm
      rw [Int.toNat_natCast] at hx
      generalize rd l (kk : Int) = n at hx hn hd
      have HD := Aside0.mk hd
      clear hd hm
      go_wp2_with (first
        | (go_at_call 31; refine (Any.strconv_FormatInt_10 Tryd.fmtI n hn.1 hn.2 _ (tab_below HT.out HBL.out)).mono ?_; rintro e W1 ⟨rfl, kq, os, hW1⟩; have hbg : Below wr.heap.size wr W1 := hW1 ▸ below_grow kq os; clear hW1; have HO1 := Aside0.mk (ownsRow_below HO.out hbg); have HBL1 := Aside0.mk (below_step HBL.out hbg); clear hbg)
        | (at_builtin; refine print_append_of (w0 := w) Value.string w.heap.size rfl (.tmp 15) _ 64 9 (.string ⟨#[]⟩) 16 rfl Tryd.underlying64 (by kernel_rfl) rfl (by decide) _ ((l.take kk).map impl_numbersText.one) (impl_numbersText.one n) rfl rfl rfl ?aO ?aB ?aS ?aL ?_; (case aO => rw [List.length_map, List.length_take, Nat.min_eq_left hk]; exact HO1.out); (case aB => exact HBL1.out); (case aS => exact HBL1.out.size); (case aL => rw [List.length_map, List.length_take]; omega); intro v1 w2 ho2 hb2 _ _; have HO2 := Aside0.mk ho2; have HB2 := Aside0.mk hb2; clear ho2 hb2))
      go_roundw
      case rel =>
        refine ⟨kk + 1, by omega, by go_num, ⟨?_⟩, HB2⟩
        have h := HO2.out
        rw [List.length_append, List.length_map, List.length_take, Nat.min_eq_left hk, List.length_singleton] at h
        rw [HD.out, List.map_append]
        exact h
      case measure => simp [intOf]; omega
    · have hkl : kk = l.length := by omega
      subst hkl
      have hO := HO.out
      rw [List.take_length] at hO
      have hcell : ∃ g, ao = some ⟨g, 0, none⟩ ∧ g < wr.heap.size ∧ l.length ≤ cap ∧ ∀ (j : Nat) x, (l.map impl_numbersText.one)[j]? = some x → wr.cell? ⟨g, 0 + j, none⟩ = some (.string x) := by
        have hl2 := hO.lt
        rcases hO.2 with ⟨hv, h0⟩ | ⟨g, cp, cur, hv, _, _, hcp, _⟩
        · omega
        · cases hv
          refine ⟨g, rfl, (hl2 g rfl).2, hcp, fun j x hx => ?_⟩
          have := (World.ownsRowF_of hO).cells (g := g) rfl j (.string x) (by rw [encs, List.getElem?_map, hx]; rfl)
          rw [add_plain] at this
          rw [Nat.zero_add]
          exact this
      obtain ⟨g, rfl, hg, hcp, hcells⟩ := hcell
      have hj : (l.map impl_numbersText.one).map (·.data.toList) = l.map Lib.itoa := by
        rw [List.map_map]
        rfl
      have HJ := Any.strings_Join Tryd.join Tryd.join_X g 0 cap (l.map impl_numbersText.one) sep wr hcells hg (by rw [List.length_map]; omega) (by rw [List.length_map]; exact hcp) (by rw [hj]; exact h3)
      rw [List.length_map, hj] at HJ
      clear hcells hO
      go_wp2_with (go_at_call 43; refine HJ.mono ?_; rintro e W1 ⟨rfl, hb1⟩)
      go_ret
      exact ⟨rfl, below_step HBL.out hb1⟩

end Go.Proofs.YtncianokahfkpaaDoor.Q
