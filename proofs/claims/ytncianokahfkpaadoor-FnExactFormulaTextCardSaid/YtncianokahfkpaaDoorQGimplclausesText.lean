/- Written by a program of this session (wip/tools/pp.py) out of the translation, with the kit's printer. -/
import Derived.Test.YtncianokahfkpaaDoorQ0
import Derived.LoopTactic
import Derived.Lib.LaidTab
import Derived.Lib.ItoaLen
import Derived.Test.YtncianokahfkpaaDoorShl
import Derived.Test.YtncianokahfkpaaDoorShb
namespace Go.Proofs.YtncianokahfkpaaDoor.Q
open Go.RowKit Go.Proofs.YtncianokahfkpaaDoorW.PrintWords Go.Proofs.YtncianokahfkpaaDoorW.PrintLast Go.Proofs.YtncianokahfkpaaDoorW.PrintMore
attribute [local go_sem] max2_int min2_int max_two min_two max_three min_three max_four min_four
set_option linter.unusedVariables false
set_option linter.unusedSimpArgs false

/-! ### impl_clausesText: walked by hand over the shelf's strings.Builder and strconv.FormatInt -/
def impl_clausesText.line : List Int → List UInt8
  | [] => [48, 10]
  | n :: r => Lib.itoa n ++ (32 :: impl_clausesText.line r)
def impl_clausesText.text : List (List Int) → List UInt8
  | [] => []
  | c :: r => impl_clausesText.line c ++ impl_clausesText.text r
theorem text_cons (c : List Int) (r : List (List Int)) : impl_clausesText.text (c :: r) = impl_clausesText.line c ++ impl_clausesText.text r := rfl
theorem line_cons (n : Int) (r : List Int) : impl_clausesText.line (n :: r) = Lib.itoa n ++ (32 :: impl_clausesText.line r) := rfl
theorem tab_below {P : Program} {n : String} {k : IntKind} {zs : List Int} {w w' : World} (h : Lib.TabIs P w n k zs) (hb : Below w.heap.size w w') : Lib.TabIs P w' n k zs := by
  unfold Lib.TabIs World.var? at h ⊢
  cases hg : P.globalNamed n with
  | none => rw [hg] at h; cases h
  | some g =>
    rw [hg] at h
    simp only [Option.bind_some] at h ⊢
    have hlt : g < w.heap.size := by
      rcases Nat.lt_or_ge g w.heap.size with h' | h'
      · exact h'
      · rw [Array.getElem?_eq_none h'] at h; cases h
    rw [hb.block g hlt]
    exact h
theorem ownsRowF_below {W W' : World} {B : Nat} {e : TypeId} {v : Value} {n : Nat} {xs : List Value} (h : W.ownsRowF B e 1 v n xs) (hb : Below W.heap.size W W') : W'.ownsRowF B e 1 v n xs := by
  refine ⟨h.1, ?_⟩
  rcases h.2 with hn | ⟨g, cap, cur, fz, rfl, hB, hg, rest⟩
  · exact .inl hn
  · exact .inr ⟨g, cap, cur, fz, rfl, hB, (hb.block g (Array.getElem?_eq_some_iff.1 hg).1).trans hg, rest⟩
theorem builderF_below {T e : TypeId} {B b : Nat} {bs : List Value} {W W' : World} (h : Lib.IsBuilderF T e B b bs W) (hb : Below W.heap.size W W') : Lib.IsBuilderF T e B b bs W' := by
  rcases h with ⟨hB, v, hv, ho, hne⟩ | ⟨hB, v, hv, ho, hne⟩
  · exact .inl ⟨hB, v, (hb.block b (Array.getElem?_eq_some_iff.1 hv).1).trans hv, ownsRowF_below ho hb, hne⟩
  · exact .inr ⟨hB, v, (hb.block b (Array.getElem?_eq_some_iff.1 hv).1).trans hv, ownsRowF_below ho hb, hne⟩
theorem builderF_lt {T e : TypeId} {B b : Nat} {bs : List Value} {W : World} (h : Lib.IsBuilderF T e B b bs W) : b < W.heap.size := by
  rcases h with h | h <;> exact h.lt
theorem below_grow {W : World} (k : Nat) (os : Array Obj) : Below W.heap.size W (Sort.grow (W.drewN k) os) := by
  refine ⟨rfl, rfl, rfl, by simp [Sort.grow], fun i hi => ?_⟩
  show ((W.drewN k).heap ++ os)[i]? = _
  rw [Array.getElem?_append_left (by simpa using hi)]
  rfl
set_option maxHeartbeats 1600000 in
theorem impl_clausesText.calls (A : Option Addr) (c : Nat) (l : List (List Int)) (w : World) (hr : Kd.C (Kd.slice 2 (Kd.int .i64)) w A l.length l) (hc : l.length ≤ c)
    (htab : Lib.TabIs Tryd.prog w "internal/strconv.uint64pow10" .u64 Lib.pow10Tab)
    (h1 : ∀ x ∈ l, ∀ n ∈ x, -9223372036854775808 ≤ n ∧ n ≤ 9223372036854775807) (h2 : (impl_clausesText.text l).length ≤ 140737488355328) :
    Calls Tryd.prog 20 #[.slice A l.length c] w fun e w' => e = .returned (.string ⟨(impl_clausesText.text l).toArray⟩) ∧ Below w.heap.size w w' := by
  have hlen := hr.2.1
  have HR := Aside0.mk hr
  have HT := Aside0.mk htab
  clear hr htab
  go_enter Tryd.func20, Tryd.ntmps20
  go_wp2
  go_loopw [11] (fun i wr => ∃ (kk : Nat) (acc : List UInt8), kk ≤ l.length ∧ i = .int .i64 kk ∧ Aside0 (Lib.IsBuilderF 51 5 w.heap.size w.heap.size (Lib.byteCells acc) wr) ∧ Aside0 (Below w.heap.size w wr) ∧ Aside0 (acc ++ impl_clausesText.text (l.drop kk) = impl_clausesText.text l)) (fun i _ => l.length - (intOf i).toNat)
  case atStart => 
    exact ⟨0, [], Nat.zero_le _, rfl, ⟨Lib.IsBuilderF.of (Lib.fresh_isBuilder _ _ w)⟩, ⟨below_alloc (Below.refl _ _) _⟩, ⟨rfl⟩⟩
  case round => 
    obtain ⟨kk, acc, hk, rfl, HBF, HBL, HA⟩ := hrel
    have hB0 := HBL.out.size
    by_cases hlt : kk < l.length
    · obtain ⟨ad, cs, e, hsz, ⟨Ai, ci, rfl, hci, hCi⟩, hcell⟩ := ReadsRow.get_ HR.out ([] : List Int) (kk : Int) (by omega) (by omega)
      subst e
      have hd : l.drop kk = l.getD kk [] :: l.drop (kk + 1) := by
        rw [List.drop_eq_getElem_cons hlt]
        simp [List.getD_eq_getElem?_getD, List.getElem?_eq_getElem hlt]
      have hm : l.getD kk [] ∈ l := by
        simp [List.getD_eq_getElem?_getD, List.getElem?_eq_getElem hlt]
      have HA2 := HA.out
      rw [hd, text_cons] at HA2
      clear hd
      rw [Int.toNat_natCast] at hcell hci hCi
      have h0 := pw_cell_below HBL.out (hcell 0 _ rfl)
      rw [show kk * (Kd.slice 2 (Kd.int .i64)).sz + 0 = kk by show kk * 1 + 0 = kk; omega] at h0
      have HCI := Aside0.mk hCi
      have HCC := Aside0.mk hci
      have h1q := h1 _ hm
      clear hcell hci hCi hsz hm
      generalize l.getD kk [] = q at HCI HCC h0 h1q HA2
      have hql := HCI.out.2.1
      have HAQ := Aside0.mk HA2
      clear HA2 HA
      go_wp2
      go_loopw [17] (fun i wr2 => ∃ (jj : Nat) (acc2 : List UInt8), jj ≤ q.length ∧ i = .int .i64 jj ∧ Aside0 (Lib.IsBuilderF 51 5 w.heap.size w.heap.size (Lib.byteCells acc2) wr2) ∧ Aside0 (Below w.heap.size w wr2) ∧ Aside0 (acc2 ++ (impl_clausesText.line (q.drop jj) ++ impl_clausesText.text (l.drop (kk + 1))) = impl_clausesText.text l)) (fun i _ => q.length - (intOf i).toNat)
      case atStart => exact ⟨0, acc, Nat.zero_le _, rfl, HBF, HBL, HAQ⟩
      case round =>
        obtain ⟨jj, acc2, hj, rfl, HBF2, HBL2, HA2⟩ := hrel
        have hB2 := HBL2.out.size
        by_cases jlt : jj < q.length
        · obtain ⟨ad2, e2, hx⟩ := Kd.at_int HCI.out (jj : Int) (by omega) (by omega)
          subst e2
          replace hx := pw_cell_below HBL2.out hx
          have hd : q.drop jj = rd q (jj : Int) :: q.drop (jj + 1) := by
            rw [List.drop_eq_getElem_cons jlt]
            simp [rd, List.getD_eq_getElem?_getD, List.getElem?_eq_getElem jlt]
          have hm : rd q (jj : Int) ∈ q := by
            simp [rd, List.getD_eq_getElem?_getD, List.getElem?_eq_getElem jlt]
          have hn := h1q _ hm
          have HA3 := HA2.out
          rw [hd, line_cons] at HA3
          rw [Int.toNat_natCast] at hx
          generalize rd q (jj : Int) = n at hx hn HA3
          have hnl := Lib.itoa_length_le n hn.1 hn.2
          have HL := congrArg List.length HA3
          simp only [List.length_append, List.length_cons] at HL
          have HA4 := Aside0.mk HA3
          clear HA3 hd hm
          have HL1 : (Lib.byteCells acc2).length + (⟨(Lib.itoa n).toArray⟩ : ByteArray).size ≤ 140737488355328 := by
            rw [Lib.byteCells_length]
            show acc2.length + (Lib.itoa n).toArray.size ≤ _
            simp only [List.size_toArray]
            omega
          go_wp2_with (first
            | (go_at_call 31; refine (Any.strconv_FormatInt_10 Tryd.fmtI n hn.1 hn.2 _ (tab_below HT.out HBL2.out)).mono ?_; rintro e W1 ⟨rfl, kq, os, rfl⟩; have HBF3 := Aside0.mk (builderF_below HBF2.out (below_grow kq os)); have HBL3 := Aside0.mk (below_step HBL2.out (below_grow kq os)))
            | (go_at_call 30; refine (Any.Builder_WriteString_k Tryd.wStr Tryd.wStr_X w.heap.size w.heap.size _ _ _ HBF3.out HL1 HBL3.out.size).mono ?_; rintro e W2 ⟨rfl, g2, b2, _⟩; have HBF4 : Aside0 (Lib.IsBuilderF 51 5 w.heap.size w.heap.size (Lib.byteCells (acc2 ++ Lib.itoa n)) W2) := Aside0.mk (by rw [Lib.byteCells_append]; exact Or.inr g2); have HBL4 := Aside0.mk (HBL3.out.trans b2))
            | (go_at_call 32; refine (Any.Builder_WriteByte_k Tryd.wByt Tryd.wByt_X w.heap.size w.heap.size _ 32 _ HBF4.out (by rw [Lib.byteCells_length, List.length_append]; omega) HBL4.out.size).mono ?_; rintro e W3 ⟨rfl, g3, b3, _⟩; have HBF5 : Aside0 (Lib.IsBuilderF 51 5 w.heap.size w.heap.size (Lib.byteCells (acc2 ++ Lib.itoa n ++ [32])) W3) := Aside0.mk (by rw [Lib.byteCells_append]; exact Or.inr g3); have HBL5 := Aside0.mk (HBL4.out.trans b3)))
          go_roundw
          case rel => exact ⟨jj + 1, acc2 ++ Lib.itoa n ++ [32], by omega, by go_num, HBF5, HBL5, ⟨by rw [← HA4.out]; simp⟩⟩
          case measure => simp [intOf]; omega
        · have hkl : jj = q.length := by omega
          have HA3 := HA2.out
          rw [hkl, List.drop_length] at HA3
          have HL := congrArg List.length HA3
          simp only [List.length_append] at HL
          rw [show impl_clausesText.line [] = [48, 10] from rfl] at HA3 HL
          have HA4 := Aside0.mk HA3
          clear HA3
          simp only [List.length_cons, List.length_nil] at HL
          go_wp2_with (go_at_call 30; refine (Any.Builder_WriteString_k Tryd.wStr Tryd.wStr_X w.heap.size w.heap.size _ (⟨#[48, 10]⟩ : ByteArray) _ HBF2.out (by rw [Lib.byteCells_length]; show acc2.length + 2 ≤ _; omega) HBL2.out.size).mono ?_; rintro e W2 ⟨rfl, g2, b2, _⟩; have HBF4 : Aside0 (Lib.IsBuilderF 51 5 w.heap.size w.heap.size (Lib.byteCells (acc2 ++ [48, 10])) W2) := Aside0.mk (by rw [Lib.byteCells_append]; exact Or.inr g2); have HBL4 := Aside0.mk (HBL2.out.trans b2))
          go_roundw
          case rel => exact ⟨kk + 1, acc2 ++ [48, 10], by omega, by go_num, HBF4, HBL4, ⟨by rw [← HA4.out, List.append_assoc]⟩⟩
          case measure => simp [intOf]; omega
    · have hkl : kk = l.length := by omega
      have HA2 := HA.out
      rw [hkl, List.drop_length] at HA2
      rw [show impl_clausesText.text [] = [] from rfl, List.append_nil] at HA2
      subst HA2
      go_wp2_with (go_at_call 33; refine (Any.Builder_String_any_k Tryd.bStr Tryd.bStr_X w.heap.size w.heap.size _ _ HBF.out (by omega)).mono ?_; rintro e W1 ⟨rfl, _, b1, _⟩)
      go_ret
      exact ⟨rfl, HBL.out.trans b1⟩

end Go.Proofs.YtncianokahfkpaaDoor.Q
