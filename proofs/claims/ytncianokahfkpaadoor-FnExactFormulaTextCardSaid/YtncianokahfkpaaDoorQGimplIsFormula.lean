/- Written by a program of this session (wip/tools/pp.py) out of the translation, with the kit's printer. -/
import Derived.Test.YtncianokahfkpaaDoorQ0
import Derived.Test.YtncianokahfkpaaDoorQ7
import Derived.Test.YtncianokahfkpaaDoorQ8
import Derived.LoopTactic
namespace Go.Proofs.YtncianokahfkpaaDoor.Q
open Go.RowKit Go.Proofs.YtncianokahfkpaaDoorW.PrintWords Go.Proofs.YtncianokahfkpaaDoorW.PrintLast Go.Proofs.YtncianokahfkpaaDoorW.PrintMore
attribute [local go_sem] max2_int min2_int max_two min_two max_three min_three max_four min_four
set_option linter.unusedVariables false
set_option linter.unusedSimpArgs false

/-! ### impl_IsFormula: walked by hand; what it hands to slices.ContainsFunc is IsFormula's own literal -/
def impl_IsFormula.all (k : Nat) (v : Int) : List (List Int) → Option Bool
  | [] => some true
  | c :: r => (impl_isClause.f k c v).bind fun p => if p = true then impl_IsFormula.all k v r else some false
def impl_IsFormula.f (k : Nat) (a0_0 : Int) (l0_1 : List (List Int)) : Option Bool :=
  (impl_within.f a0_0 0 400).bind fun p => if p = true then (if (l0_1.length : Int) > 20000 then some false else impl_IsFormula.all k a0_0 l0_1) else some false
theorem impl_IsFormula.all_mono (k : Nat) (v : Int) : ∀ l, LeO (impl_IsFormula.all k v l) (impl_IsFormula.all (k + 1) v l)
  | [] => LeO.refl _
  | c :: r => by
    unfold impl_IsFormula.all
    refine LeO.bind (impl_isClause.mono _ _ _) (fun p => ?_)
    cases p
    · exact LeO.refl _
    · exact impl_IsFormula.all_mono k v r
theorem impl_IsFormula.mono : ∀ a0 a1 k, LeO (impl_IsFormula.f k a0 a1) (impl_IsFormula.f (k + 1) a0 a1) := by
  intro a0 a1 k
  unfold impl_IsFormula.f
  refine LeO.bind (LeO.refl _) (fun p => ?_)
  cases p
  · exact LeO.refl _
  · rw [if_pos rfl, if_pos rfl]
    split
    · exact LeO.refl _
    · exact impl_IsFormula.all_mono k a0 a1
set_option maxHeartbeats 800000 in
theorem impl_IsFormula.lit (k : Nat) (A : Option Addr) (c : Nat) (l : List Int) (u : Value) (n : Int) (B : Nat) (r : Bool) (w : World) (hr : Kd.C (Kd.int .i64) w A l.length l) (hc : l.length ≤ c) (hB : w.heap[B]? = some (.cells #[.int .i64 n, u] 29 (0, 0))) (h : impl_isClause.f k l n = some r) :
    Calls Tryd.prog 36 #[.slice A l.length c, .pointer (some ⟨B, 0, none⟩)] w fun e w' => e = .returned (.bool (!r)) ∧ Below w.heap.size w w' := by
  have HR := Aside0.mk hr
  have HC := Aside0.mk hc
  have HH := Aside0.mk h
  have hu28 := Tryd.underlying29
  have c0 := (blk_cell hB 0).trans rfl
  clear hr hc h hB
  go_enter Tryd.func36, Tryd.ntmps36
  go_wp2_with (go_at_call 29; (with_reducible refine (impl_isClause.calls k _ _ l _ _ _ HR.out HC.out HH.out).mono ?_); rintro e w1 ⟨rfl, hb1⟩)
  go_ret
  exact ⟨rfl, hb1⟩
set_option maxHeartbeats 800000 in
theorem impl_IsFormula.idx (k : Nat) (A : Option Addr) (c : Nat) (l : List (List Int)) (u : Value) (n : Int) (B : Nat) (r : Bool) (w : World) (hr : Kd.C (Kd.slice 2 (Kd.int .i64)) w A l.length l) (hB : w.heap[B]? = some (.cells #[.int .i64 n, u] 29 (0, 0))) (h : impl_IsFormula.all k n l = some r) :
    Calls Tryd.prog 39 #[.slice A l.length c, .func (.func 36) #[] #[.pointer (some ⟨B, 0, none⟩)]] w fun e w' => (∃ j : Int, Aside0 (r = decide (j < 0)) ∧ e = .returned (.int .i64 j)) ∧ Below w.heap.size w w' := by
  have hlen := hr.2.1
  have HR := Aside0.mk hr
  have HB := Aside0.mk hB
  have HH := Aside0.mk h
  clear hr hB h
  go_enter Tryd.func39, Tryd.ntmps39
  go_wp2
  go_loopw [8] (fun i wr => ∃ kk : Nat, kk ≤ l.length ∧ i = .int .i64 kk ∧ Aside0 (impl_IsFormula.all k n (l.drop kk) = some r) ∧ Aside0 (Below w.heap.size w wr)) (fun i _ => l.length - (intOf i).toNat)
  case atStart => exact ⟨0, Nat.zero_le _, rfl, HH, ⟨Below.refl _ _⟩⟩
  case round =>
    obtain ⟨kk, hk, rfl, HG, HBL⟩ := hrel
    by_cases hlt : kk < l.length
    · obtain ⟨ad, cs, e, hsz, ⟨Ai, ci, rfl, hci, hCi⟩, hcell⟩ := ReadsRow.get_ (Kd.C_below HR.out HBL.out) ([] : List Int) (kk : Int) (by omega) (by omega)
      subst e
      have hd : l.drop kk = l.getD kk [] :: l.drop (kk + 1) := by
        rw [List.drop_eq_getElem_cons hlt]
        simp [List.getD_eq_getElem?_getD, List.getElem?_eq_getElem hlt]
      have HG2 := HG.out
      rw [hd] at HG2
      clear hd
      unfold impl_IsFormula.all at HG2
      obtain ⟨p, hp, HG3⟩ := Option.bind_eq_some_iff.mp HG2
      clear HG2
      have HP := Aside0.mk hp
      have HG4 := Aside0.mk HG3
      clear hp HG3
      rw [Int.toNat_natCast] at hcell hci hCi
      have h0 := hcell 0 _ rfl
      rw [show kk * (Kd.slice 2 (Kd.int .i64)).sz + 0 = kk by show kk * 1 + 0 = kk; omega] at h0
      have HCI := Aside0.mk hCi
      have HCC := Aside0.mk hci
      have HBX := Aside0.mk (blk_below HB.out HBL.out)
      clear hcell hci hCi hsz
      generalize l.getD kk [] = q at HP HCI HCC h0
      cases p with
      | true =>
        have HG5 := Aside0.mk ((if_pos rfl).symm.trans HG4.out)
        go_wp2_with (go_at_call 36; (with_reducible refine (impl_IsFormula.lit k _ _ _ _ _ _ true _ HCI.out HCC.out HBX.out HP.out).mono ?_); rintro e w1 ⟨rfl, hb1⟩)
        go_roundw
        case rel => exact ⟨kk + 1, by omega, by go_num, HG5, ⟨below_step HBL.out hb1⟩⟩
        case measure => simp [intOf]; omega
      | false =>
        have HG5 := Aside0.mk ((if_neg (by decide)).symm.trans HG4.out)
        go_wp2_with (go_at_call 36; (with_reducible refine (impl_IsFormula.lit k _ _ _ _ _ _ false _ HCI.out HCC.out HBX.out HP.out).mono ?_); rintro e w1 ⟨rfl, hb1⟩)
        go_ret
        exact ⟨⟨_, ⟨by rw [← Option.some.inj HG5.out]; simp⟩, rfl⟩, below_step HBL.out hb1⟩
    · have hkl : kk = l.length := by omega
      have HG2 := HG.out
      rw [hkl, List.drop_length] at HG2
      have HR2 := Aside0.mk (Option.some.inj HG2)
      clear HG2 hkl
      go_wp2
      go_ret
      exact ⟨⟨_, ⟨by rw [← HR2.out]; rfl⟩, rfl⟩, HBL.out⟩
set_option maxHeartbeats 800000 in
theorem impl_IsFormula.has (k : Nat) (A : Option Addr) (c : Nat) (l : List (List Int)) (u : Value) (n : Int) (B : Nat) (r : Bool) (w : World) (hr : Kd.C (Kd.slice 2 (Kd.int .i64)) w A l.length l) (hB : w.heap[B]? = some (.cells #[.int .i64 n, u] 29 (0, 0))) (h : impl_IsFormula.all k n l = some r) :
    Calls Tryd.prog 27 #[.slice A l.length c, .func (.func 36) #[] #[.pointer (some ⟨B, 0, none⟩)]] w fun e w' => e = .returned (.bool (!r)) ∧ Below w.heap.size w w' := by
  have hc := impl_IsFormula.idx k A c l u n B r w hr hB h
  clear hr hB h
  go_enter Tryd.func27, Tryd.ntmps27
  go_wp2_with (go_at_call 39; refine hc.mono ?_; rintro e w1 ⟨⟨j, hj, rfl⟩, hb1⟩)
  go_ret
  refine ⟨?_, hb1⟩
  rw [hj.out]
  congr 2
  by_cases e : j < 0
  · simp [e]
  · simp [e]
    omega
set_option maxHeartbeats 800000 in
theorem impl_IsFormula.calls (k : Nat) (a0_0 : Int) (A0_1 : Option Addr) (c0_1 : Nat) (l0_1 : List (List Int)) (r : Bool) (w : World) (hr0_1 : Kd.C (Kd.slice 2 (Kd.int .i64)) w A0_1 l0_1.length l0_1) (hc0_1 : l0_1.length ≤ c0_1) (h : impl_IsFormula.f k a0_0 l0_1 = some r) :
    Calls Tryd.prog 24 #[.agg #[.int .i64 a0_0, .slice A0_1 l0_1.length c0_1]] w fun e w' => e = .returned (.bool r) ∧ Below w.heap.size w w' := by
  have hlen := hr0_1.2.1
  have HR := Aside0.mk hr0_1
  clear hr0_1
  unfold impl_IsFormula.f at h
  obtain ⟨p, hp, h1⟩ := Option.bind_eq_some_iff.mp h
  clear h
  have HP := Aside0.mk hp
  have hu28 := Tryd.underlying29
  have HB0 := Aside0.mk (heap_alloc_new w (.cells #[.int .i64 a0_0, .slice A0_1 l0_1.length c0_1] 29 (0, 0)))
  clear hp
  have c0 := (blk_cell HB0.out 0).trans rfl
  have c1 := (blk_cell HB0.out 1).trans rfl
  cases p with
  | false =>
    rw [if_neg (by decide)] at h1
    obtain rfl := Option.some.inj h1
    go_enter Tryd.func24, Tryd.ntmps24
    go_wp2_with (go_at_call 35; (with_reducible refine (impl_within.calls _ _ _ _ _ HP.out).mono ?_); rintro e w1 ⟨rfl, hd1⟩; obtain ⟨nq, hw⟩ := hd1.out; subst hw)
    go_ret
    exact ⟨rfl, by repeat (first | exact Below.refl _ _ | apply pw_below_drewN | apply below_alloc)⟩
  | true =>
    rw [if_pos rfl] at h1
    by_cases hl : (l0_1.length : Int) > 20000
    · rw [if_pos hl] at h1
      obtain rfl := Option.some.inj h1
      go_enter Tryd.func24, Tryd.ntmps24
      go_wp2_with (go_at_call 35; (with_reducible refine (impl_within.calls _ _ _ _ _ HP.out).mono ?_); rintro e w1 ⟨rfl, hd1⟩; obtain ⟨nq, hw⟩ := hd1.out; subst hw)
      go_ret
      exact ⟨rfl, by repeat (first | exact Below.refl _ _ | apply pw_below_drewN | apply below_alloc)⟩
    · rw [if_neg hl] at h1
      have H1 := Aside0.mk h1
      clear h1
      go_enter Tryd.func24, Tryd.ntmps24
      go_wp2_with (first
        | (go_at_call 35; (with_reducible refine (impl_within.calls _ _ _ _ _ HP.out).mono ?_); rintro e w1 ⟨rfl, hd1⟩; obtain ⟨nq, hw⟩ := hd1.out; subst hw)
        | (go_at_call 27; refine (impl_IsFormula.has k _ _ _ _ _ _ r _ (Kd.C_below HR.out (by repeat (first | exact Below.refl _ _ | apply pw_below_drewN | apply below_alloc))) (blk_drewN HB0.out _) H1.out).mono ?_; rintro e w2 ⟨rfl, hb2⟩))
      go_ret
      refine ⟨by simp, below_step (by repeat (first | exact Below.refl _ _ | apply pw_below_drewN | apply below_alloc)) hb2⟩

end Go.Proofs.YtncianokahfkpaaDoor.Q
