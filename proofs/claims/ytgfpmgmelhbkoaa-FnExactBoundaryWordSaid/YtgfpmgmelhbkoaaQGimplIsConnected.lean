/- Written by a program of this session (wip/tools/pp.py) out of the translation, with the kit's printer. -/
import Derived.Test.YtgfpmgmelhbkoaaQ0
import Derived.Test.YtgfpmgmelhbkoaaQGimplparts
import Derived.Test.YtgfpmgmelhbkoaaQ12
import Derived.LoopTactic
namespace Go.Proofs.Ytgfpmgmelhbkoaa.Q
open Go.RowKit Go.Proofs.YtgfpmgmelhbkoaaW.PrintWords Go.Proofs.YtgfpmgmelhbkoaaW.PrintLast Go.Proofs.YtgfpmgmelhbkoaaW.PrintMore
attribute [local go_sem] max2_int min2_int max_two min_two max_three min_three max_four min_four
set_option linter.unusedVariables false
set_option linter.unusedSimpArgs false

/-! ### impl_IsConnected: walked by hand, with slices.Max and impl.connected -/
attribute [local go_sem] max2_int min2_int max_two min_two
def impl_IsConnected.mxs : Int → List Int → Int
  | m, [] => m
  | m, x :: r => impl_IsConnected.mxs (mx m x) r
def impl_IsConnected.f (k : Nat) (sh : List S35) : Option Bool :=
  (impl_IsShape.f k sh).bind fun b => if b = true then (impl_parts.f k sh).bind fun p => match p with | [] => none | x :: r => some (decide (impl_IsConnected.mxs x r = 0)) else some false
theorem impl_IsConnected.mono : ∀ a0 k, LeO (impl_IsConnected.f k a0) (impl_IsConnected.f (k + 1) a0) := by
  intro a0 k
  unfold impl_IsConnected.f
  refine LeO.bind (impl_IsShape.mono _ _) (fun b => ?_)
  split
  · exact LeO.bind (impl_parts.mono _ _) (fun p => LeO.refl _)
  · exact LeO.refl _
set_option maxHeartbeats 1600000 in
theorem impl_IsConnected.max (A : Option Addr) (c : Nat) (x : Int) (r : List Int) (w : World) (hr : Kd.C (Kd.int .i64) w A (x :: r).length (x :: r)) (hc : (x :: r).length ≤ c) :
    Calls Try.prog 49 #[.slice A (x :: r).length c] w fun e w' => e = .returned (.int .i64 (impl_IsConnected.mxs x r)) ∧ Below w.heap.size w w' := by
  have hlen := hr.2.1
  have HR := Aside0.mk hr
  obtain ⟨l, hl⟩ : ∃ l, l = x :: r := ⟨_, rfl⟩
  have HL := Aside0.mk hl
  rw [← hl] at hlen HR hc ⊢
  have hpos : 0 < l.length := by rw [hl]; simp
  clear hr hl
  obtain ⟨ad, e, h0⟩ := Kd.at_int HR.out 0 (by omega) (by omega)
  subst e
  have h00 : w.cell? ad = some (.int .i64 x) := by
    have h := h0
    rw [show ad.add (0 : Int).toNat = ad by simp [Addr.add]] at h
    rw [h, HL.out]
    rfl
  clear h0
  have hp2 : decide ((l.length : Int) < 1) = false := decide_eq_false (by omega)
  have hp3 : ((l.length : Int) < 1) = False := eq_false (by omega)
  have hp4 : ((0 : Int) < (l.length : Int)) = True := eq_true (by omega)
  go_enter Try.func49, Try.ntmps49
  go_wp2
  clear hp2 hp3 hp4
  go_loopw [3, 4] (fun v i wr => ∃ (kk : Nat) (m : Int), 1 ≤ kk ∧ kk ≤ l.length ∧ i = .int .i64 kk ∧ v = .int .i64 m ∧ Aside0 (impl_IsConnected.mxs m (l.drop kk) = impl_IsConnected.mxs x r) ∧ Aside0 (Below w.heap.size w wr)) (fun _ i _ => l.length - (intOf i).toNat)
  case atStart =>
    exact ⟨1, x, Nat.le_refl _, hpos, rfl, rfl, ⟨by rw [HL.out]; rfl⟩, ⟨by repeat (first | exact Below.refl _ _ | apply below_alloc | apply pw_below_drewN)⟩⟩
  case round =>
    obtain ⟨kk, m, hk1, hk, rfl, rfl, HG, HB⟩ := hrel
    by_cases hlt : kk < l.length
    · obtain ⟨ad2, e2, hx⟩ := Kd.at_int HR.out (kk : Int) (by omega) (by omega)
      cases e2
      replace hx := pw_cell_below HB.out hx
      have hd : l.drop kk = rd l (kk : Int) :: l.drop (kk + 1) := by
        rw [List.drop_eq_getElem_cons hlt]
        simp [rd, List.getD_eq_getElem?_getD, List.getElem?_eq_getElem hlt]
      have hG := HG.out
      rw [hd] at hG
      have HG2 := Aside0.mk hG
      rw [Int.toNat_natCast] at hx
      generalize rd l (kk : Int) = y at hx HG2
      clear hd hG HG
      go_wp2
      go_roundw
      case rel => exact ⟨kk + 1, mx m y, by omega, by omega, by go_num, by first | rfl | (simp [max2_int]; done), HG2, HB⟩
      case measure => simp [intOf]; omega
    · have hkl : kk = l.length := by omega
      subst hkl
      have hG := HG.out
      rw [List.drop_length] at hG
      have HG2 := Aside0.mk hG
      clear hG HG
      go_wp2
      go_ret
      exact ⟨by rw [← HG2.out]; rfl, HB.out⟩
set_option maxHeartbeats 1600000 in
theorem impl_IsConnected.conn (k : Nat) (A : Option Addr) (c : Nat) (sh : List S35) (x : Int) (r : List Int) (w : World) (hr : Kd.C k35 w A sh.length sh) (hc : sh.length ≤ c) (h : impl_parts.f k sh = some (x :: r)) :
    Calls Try.prog 45 #[.slice A sh.length c, .func (.func 35) #[] #[]] w fun e w' => e = .returned (.bool (decide (impl_IsConnected.mxs x r = 0))) ∧ Below w.heap.size w w' := by
  have HR := Aside0.mk hr
  have HH := Aside0.mk h
  clear hr h
  go_enter Try.func45, Try.ntmps45
  go_wp2_with (first
    | (go_at_call 34; refine (impl_parts.calls k A c sh (x :: r) _ HR.out hc HH.out).mono ?_; rintro e w1 ⟨v1, rfl, ho1, hb1⟩; obtain ⟨A1, c1, e1⟩ := Kd.R_slice ho1; subst e1; have HO := Aside0.mk ho1; have HB := Aside0.mk hb1; clear ho1 hb1)
    | (go_at_call 49; refine (impl_IsConnected.max A1 c1 x r _ (Kd.R_reads' HO.out).2.2 (Kd.R_reads' HO.out).2.1).mono ?_; rintro e w2 ⟨rfl, hb2⟩))
  go_ret
  exact ⟨by first | rfl | simp, below_step HB.out hb2⟩
set_option maxHeartbeats 1600000 in
theorem impl_IsConnected.calls (k : Nat) (A0 : Option Addr) (c0 : Nat) (l0 : List S35) (r : Bool) (w : World) (hr0 : Kd.C k35 w A0 l0.length l0) (hc0 : l0.length ≤ c0) (h : impl_IsConnected.f k l0 = some r) :
    Calls Try.prog 30 #[.slice A0 l0.length c0] w fun e w' => e = .returned (.bool r) ∧ Below w.heap.size w w' := by
  have HR := Aside0.mk hr0
  clear hr0
  unfold impl_IsConnected.f at h
  obtain ⟨b, hb, h1⟩ := Option.bind_eq_some_iff.mp h
  have HP := Aside0.mk hb
  clear h hb
  cases b with
  | false =>
    rw [if_neg (by decide)] at h1
    obtain rfl := Option.some.inj h1
    go_enter Try.func30, Try.ntmps30
    go_wp2_with (go_at_call 44; (with_reducible refine (impl_IsShape.calls k _ _ l0 false _ HR.out hc0 HP.out).mono ?_); rintro e w1 ⟨rfl, hd1⟩)
    go_ret
    first | exact ⟨rfl, hd1⟩ | exact ⟨rfl, hd1.below⟩
  | true =>
    rw [if_pos rfl] at h1
    obtain ⟨p, hp, h2⟩ := Option.bind_eq_some_iff.mp h1
    cases p with
    | nil => cases h2
    | cons x rr =>
      obtain rfl := Option.some.inj h2
      have HQ := Aside0.mk hp
      clear h1 hp h2
      go_enter Try.func30, Try.ntmps30
      go_wp2_with (first
        | (go_at_call 44; (with_reducible refine (impl_IsShape.calls k _ _ l0 true _ HR.out hc0 HP.out).mono ?_); rintro e w1 ⟨rfl, hd1⟩; have HD : Aside0 (Below w.heap.size w w1) := (by first | exact ⟨hd1⟩ | exact ⟨hd1.below⟩))
        | (go_at_call 45; refine (impl_IsConnected.conn k A0 c0 l0 x rr _ (Kd.C_below HR.out HD.out) hc0 HQ.out).mono ?_; rintro e w2 ⟨rfl, hb2⟩))
      go_ret
      exact ⟨rfl, below_step HD.out hb2⟩

end Go.Proofs.Ytgfpmgmelhbkoaa.Q
