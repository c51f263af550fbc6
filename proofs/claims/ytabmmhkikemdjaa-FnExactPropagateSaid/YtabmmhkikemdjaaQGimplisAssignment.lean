/- Written by a program of this session (wip/tools/pp.py) out of the translation, with the kit's printer. -/
import Derived.Test.YtabmmhkikemdjaaQ0
import Derived.Test.YtabmmhkikemdjaaQ7
import Derived.LoopTactic
namespace Go.Proofs.Ytabmmhkikemdjaa.Q
open Go.RowKit Go.Proofs.YtabmmhkikemdjaaW.PrintWords Go.Proofs.YtabmmhkikemdjaaW.PrintLast Go.Proofs.YtabmmhkikemdjaaW.PrintMore
attribute [local go_sem] max2_int min2_int max_two min_two max_three min_three max_four min_four
set_option linter.unusedVariables false
set_option linter.unusedSimpArgs false

/-! ### impl_isAssignment: walked by hand; what it hands to slices.ContainsFunc is its own literal -/
def inA (n : Int) : Bool := decide (-1 ≤ n) && decide (n ≤ 1)
def impl_isAssignment.f (l0 : List Int) (a1 : Int) : Option Bool := some (decide ((l0.length : Int) = a1) && l0.all inA)
set_option maxHeartbeats 800000 in
theorem impl_isAssignment.lit (n : Int) (w : World) :
    Calls Try.prog 61 #[.int .i64 n] w fun e w' => e = .returned (.bool (!inA n)) ∧ Below w.heap.size w w' := by
  have h : impl_within.f n (-1) 1 = some (inA n) := by
    unfold impl_within.f inA
    by_cases c : n ≥ -1
    · rw [if_pos c]
      simp [c]
    · rw [if_neg c]
      simp
      omega
  go_enter Try.func61, Try.ntmps61
  go_wp2_with (go_at_call 44; (with_reducible refine (impl_within.calls _ _ _ _ _ h).mono ?_); rintro e w1 ⟨rfl, hd1⟩)
  go_ret
  exact ⟨rfl, hd1.below⟩
set_option maxHeartbeats 800000 in
theorem impl_isAssignment.idx (A : Option Addr) (c : Nat) (l : List Int) (w : World) (hr : Kd.C (Kd.int .i64) w A l.length l) :
    Calls Try.prog 66 #[.slice A l.length c, .func (.func 61) #[] #[]] w fun e w' => (∃ j : Int, Aside0 (l.all inA = decide (j < 0)) ∧ e = .returned (.int .i64 j)) ∧ Below w.heap.size w w' := by
  have hlen := hr.2.1
  have HR := Aside0.mk hr
  clear hr
  go_enter Try.func66, Try.ntmps66
  go_wp2
  go_loopw [8] (fun i wr => ∃ kk : Nat, kk ≤ l.length ∧ i = .int .i64 kk ∧ Aside0 (l.all inA = (l.drop kk).all inA) ∧ Aside0 (Below w.heap.size w wr)) (fun i _ => l.length - (intOf i).toNat)
  case atStart => exact ⟨0, Nat.zero_le _, rfl, ⟨rfl⟩, ⟨Below.refl _ _⟩⟩
  case round =>
    obtain ⟨kk, hk, rfl, HG, HBL⟩ := hrel
    by_cases hlt : kk < l.length
    · obtain ⟨ad, e, h0⟩ := Kd.at_int (Kd.C_below HR.out HBL.out) (kk : Int) (by omega) (by omega)
      subst e
      have hd : l.drop kk = rd l kk :: l.drop (kk + 1) := by
        rw [List.drop_eq_getElem_cons hlt]
        simp [rd, List.getD_eq_getElem?_getD, List.getElem?_eq_getElem hlt]
      have HG2 := HG.out
      rw [hd, List.all_cons] at HG2
      clear hd
      rw [Int.toNat_natCast] at h0
      generalize rd l kk = q at h0 HG2
      have hlit := fun w : World => impl_isAssignment.lit q w
      cases hq : inA q with
      | true =>
        rw [hq, Bool.true_and] at HG2
        rw [hq] at hlit
        have HG3 := Aside0.mk HG2
        clear HG2
        go_wp2_with (go_at_call 61; refine (hlit _).mono ?_; rintro e w1 ⟨rfl, hb1⟩)
        go_roundw
        case rel => exact ⟨kk + 1, by omega, by go_num, HG3, ⟨below_step HBL.out hb1⟩⟩
        case measure => simp [intOf]; omega
      | false =>
        rw [hq, Bool.false_and] at HG2
        rw [hq] at hlit
        have HG3 := Aside0.mk HG2
        clear HG2
        go_wp2_with (go_at_call 61; refine (hlit _).mono ?_; rintro e w1 ⟨rfl, hb1⟩)
        go_ret
        exact ⟨⟨_, ⟨by rw [HG3.out]; simp⟩, rfl⟩, below_step HBL.out hb1⟩
    · have hkl : kk = l.length := by omega
      have HG2 := HG.out
      rw [hkl, List.drop_length] at HG2
      have HR2 := Aside0.mk HG2
      clear HG2 hkl
      go_wp2
      go_ret
      exact ⟨⟨_, ⟨by rw [HR2.out]; rfl⟩, rfl⟩, HBL.out⟩
set_option maxHeartbeats 800000 in
theorem impl_isAssignment.has (A : Option Addr) (c : Nat) (l : List Int) (w : World) (hr : Kd.C (Kd.int .i64) w A l.length l) :
    Calls Try.prog 60 #[.slice A l.length c, .func (.func 61) #[] #[]] w fun e w' => e = .returned (.bool (!l.all inA)) ∧ Below w.heap.size w w' := by
  have hc := impl_isAssignment.idx A c l w hr
  clear hr
  go_enter Try.func60, Try.ntmps60
  go_wp2_with (go_at_call 66; refine hc.mono ?_; rintro e w1 ⟨⟨j, hj, rfl⟩, hb1⟩)
  go_ret
  refine ⟨?_, hb1⟩
  rw [hj.out]
  congr 2
  by_cases e : j < 0
  · simp [e]
  · simp [e]
    omega
set_option maxHeartbeats 800000 in
theorem impl_isAssignment.calls (A0 : Option Addr) (c0 : Nat) (l0 : List Int) (a1 : Int) (r : Bool) (w : World) (hr0 : Kd.C (Kd.int .i64) w A0 l0.length l0) (hc0 : l0.length ≤ c0) (h : impl_isAssignment.f l0 a1 = some r) :
    Calls Try.prog 51 #[.slice A0 l0.length c0, .int .i64 a1] w fun e w' => e = .returned (.bool r) ∧ Below w.heap.size w w' := by
  have hlen := hr0.2.1
  have hhas := fun w' (hb : Below w.heap.size w w') => impl_isAssignment.has A0 c0 l0 w' (Kd.C_below hr0 hb)
  clear hr0
  obtain rfl := Option.some.inj h
  clear h
  generalize l0.all inA = q at hhas ⊢
  cases hd : decide ((l0.length : Int) = a1) with
  | false =>
    have hd2 : ((l0.length : Int) == a1) = false := by simpa using hd
    clear hd
    go_enter Try.func51, Try.ntmps51
    go_wp2
    go_ret
    exact ⟨rfl, Below.refl _ _⟩
  | true =>
    have hd2 : ((l0.length : Int) == a1) = true := by simpa using hd
    clear hd
    go_enter Try.func51, Try.ntmps51
    go_wp2_with (go_at_call 60; refine (hhas _ (by repeat (first | exact Below.refl _ _ | apply pw_below_drewN | apply below_drew1 | apply below_alloc))).mono ?_; rintro e w2 ⟨rfl, hb2⟩)
    go_ret
    exact ⟨by simp, hb2⟩

end Go.Proofs.Ytabmmhkikemdjaa.Q
