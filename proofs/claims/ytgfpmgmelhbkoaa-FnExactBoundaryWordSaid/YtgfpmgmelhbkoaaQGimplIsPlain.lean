/- Written by a program of this session (wip/tools/pp.py) out of the translation, with the kit's printer. -/
import Derived.Test.YtgfpmgmelhbkoaaQ0
import Derived.Test.YtgfpmgmelhbkoaaQ14
import Derived.Test.YtgfpmgmelhbkoaaQGimplholes
import Derived.LoopTactic
namespace Go.Proofs.Ytgfpmgmelhbkoaa.Q
open Go.RowKit Go.Proofs.YtgfpmgmelhbkoaaW.PrintWords Go.Proofs.YtgfpmgmelhbkoaaW.PrintLast Go.Proofs.YtgfpmgmelhbkoaaW.PrintMore
attribute [local go_sem] max2_int min2_int max_two min_two max_three min_three max_four min_four
set_option linter.unusedVariables false
set_option linter.unusedSimpArgs false

/-! ### impl_IsPlain: walked by hand over holes -/
def impl_IsPlain.one (k : Nat) (sh : List S35) (c : S35) (s : Int) : Option Bool :=
  (impl_Cell_19.f k sh (wrap64 (c.f0 + s)) c.f1).bind fun b1 =>
  (if b1 = true then some true else impl_Cell_19.f k sh c.f0 (wrap64 (c.f1 + 1))).bind fun b2 =>
  if b2 = true then some false else impl_Cell_19.f k sh (wrap64 (c.f0 + s)) (wrap64 (c.f1 + 1))
def impl_IsPlain.two (k : Nat) (sh : List S35) (c : S35) : List Int → Option Bool
  | [] => some false
  | s :: r => (impl_IsPlain.one k sh c s).bind fun b => if b = true then some true else impl_IsPlain.two k sh c r
def impl_IsPlain.all (k : Nat) (sh : List S35) : List S35 → Option Bool
  | [] => some true
  | c :: r => (impl_IsPlain.two k sh c [-1, 1]).bind fun b => if b = true then some false else impl_IsPlain.all k sh r
def impl_IsPlain.f (k : Nat) (l0 : List S35) : Option Bool :=
  (impl_connectedCode.f k l0).bind fun e => if e = 0 then ((impl_holes.f k l0).bind fun m => if 0 < m then some false else impl_IsPlain.all k l0 l0) else some false
theorem impl_IsPlain.one_mono (k : Nat) (sh : List S35) (c : S35) (s : Int) : LeO (impl_IsPlain.one k sh c s) (impl_IsPlain.one (k + 1) sh c s) := by
  unfold impl_IsPlain.one
  refine LeO.bind (impl_Cell_19.mono _ _ _ _) (fun b1 => LeO.bind ?_ (fun b2 => ?_))
  · split
    · exact LeO.refl _
    · exact impl_Cell_19.mono _ _ _ _
  · split
    · exact LeO.refl _
    · exact impl_Cell_19.mono _ _ _ _
theorem impl_IsPlain.two_mono (k : Nat) (sh : List S35) (c : S35) : ∀ l, LeO (impl_IsPlain.two k sh c l) (impl_IsPlain.two (k + 1) sh c l)
  | [] => LeO.refl _
  | s :: r => by
    unfold impl_IsPlain.two
    refine LeO.bind (impl_IsPlain.one_mono k sh c s) (fun b => ?_)
    split
    · exact LeO.refl _
    · exact impl_IsPlain.two_mono k sh c r
theorem impl_IsPlain.all_mono (k : Nat) (sh : List S35) : ∀ l, LeO (impl_IsPlain.all k sh l) (impl_IsPlain.all (k + 1) sh l)
  | [] => LeO.refl _
  | c :: r => by
    unfold impl_IsPlain.all
    refine LeO.bind (impl_IsPlain.two_mono k sh c _) (fun b => ?_)
    split
    · exact LeO.refl _
    · exact impl_IsPlain.all_mono k sh r
theorem impl_IsPlain.mono : ∀ a0 k, LeO (impl_IsPlain.f k a0) (impl_IsPlain.f (k + 1) a0) := by
  intro a0 k
  unfold impl_IsPlain.f
  refine LeO.bind (impl_connectedCode.mono _ _) (fun e => ?_)
  split
  · refine LeO.bind (impl_holes.mono _ _) (fun m => ?_)
    split
    · exact LeO.refl _
    · exact impl_IsPlain.all_mono k a0 a0
  · exact LeO.refl _
set_option maxRecDepth 100000 in
set_option maxHeartbeats 4000000 in
theorem impl_IsPlain.calls (k : Nat) (A0 : Option Addr) (c0 : Nat) (l0 : List S35) (r : Bool) (w : World) (hr0 : Kd.C k35 w A0 l0.length l0) (hc0 : l0.length ≤ c0) (h : impl_IsPlain.f k l0 = some r) :
    Calls Try.prog 8 #[.slice A0 l0.length c0] w fun e w' => e = .returned (.bool r) ∧ Below w.heap.size w w' := by
  have hlen := hr0.2.1
  have HR := Aside0.mk hr0
  clear hr0
  unfold impl_IsPlain.f at h
  replace h := Option.bind_eq_some_iff.mp h
  obtain ⟨e, he, h⟩ := h
  have HE := Aside0.mk he
  clear he
  by_cases e0 : e = 0
  case neg =>
    rw [if_neg e0] at h
    obtain rfl := Option.some.inj h
    have hb1 : (e != 0) = true := bne_iff_ne.mpr e0
    clear h
    go_enter Try.func8, Try.ntmps8
    go_wp2_with (go_at_call 17; (with_reducible refine (impl_connectedCode.calls k _ _ l0 e _ HR.out hc0 HE.out).mono ?_); rintro e' w1 ⟨rfl, hd1⟩)
    go_ret
    exact ⟨rfl, hd1⟩
  rw [if_pos e0] at h
  subst e0
  replace h := Option.bind_eq_some_iff.mp h
  obtain ⟨m, hm, h⟩ := h
  have HM := Aside0.mk hm
  clear hm
  by_cases m0 : 0 < m
  · rw [if_pos m0] at h
    obtain rfl := Option.some.inj h
    have hb1 : ((m : Int) > 0) := by omega
    clear h
    go_enter Try.func8, Try.ntmps8
    go_wp2_with (first
      | (go_at_call 17; (with_reducible refine (impl_connectedCode.calls k _ _ l0 0 _ HR.out hc0 HE.out).mono ?_); rintro e' w1 ⟨rfl, hd1⟩; have HD1 := Aside0.mk hd1)
      | (go_at_call 18; refine (impl_holes.calls k _ _ l0 m _ (Kd.C_below HR.out HD1.out) hc0 HM.out).mono ?_; rintro e' w2 ⟨⟨A2, c2, rfl⟩, hd2⟩; have HD2 := Aside0.mk (below_step HD1.out hd2)))
    go_ret
    exact ⟨rfl, HD2.out⟩
  rw [if_neg m0] at h
  have hm0 : m = 0 := by omega
  subst hm0
  have H := Aside0.mk h
  clear h m0
  have hu35 := Try.underlying35
  go_enter Try.func8, Try.ntmps8
  go_wp2_with (first
      | (go_at_call 17; (with_reducible refine (impl_connectedCode.calls k _ _ l0 0 _ HR.out hc0 HE.out).mono ?_); rintro e' w1 ⟨rfl, hd1⟩; have HD1 := Aside0.mk hd1)
      | (go_at_call 18; refine (impl_holes.calls k _ _ l0 0 _ (Kd.C_below HR.out HD1.out) hc0 HM.out).mono ?_; rintro e' w2 ⟨⟨A2, c2, rfl⟩, hd2⟩; have HD2 := Aside0.mk (below_step HD1.out hd2)))
  clear hd1 hd2
  go_loopw [19] (fun i wr => ∃ kk : Nat, kk ≤ l0.length ∧ i = .int .i64 kk ∧ Aside0 (impl_IsPlain.all k l0 (l0.drop kk) = some r) ∧ Aside0 (Below w.heap.size w wr)) (fun i _ => l0.length - (intOf i).toNat)
  case atStart => exact ⟨0, Nat.zero_le _, rfl, H, HD2⟩
  case round =>
    obtain ⟨kk, hk, rfl, HG, HB⟩ := hrel
    clear HD1 HD2
    by_cases hlt : kk < l0.length
    · obtain ⟨ad, e, h0, h1⟩ := at_T35 (Kd.C_below HR.out HB.out) (kk : Int) (by omega) (by omega)
      subst e
      rw [Int.toNat_natCast] at h0 h1
      have hd : l0.drop kk = rd_T35 l0 kk :: l0.drop (kk + 1) := by
        rw [List.drop_eq_getElem_cons hlt]
        simp [rd_T35, List.getD_eq_getElem?_getD, List.getElem?_eq_getElem hlt]
      have hG := HG.out
      rw [hd] at hG
      generalize rd_T35 l0 kk = y at h0 h1 hG
      unfold impl_IsPlain.all at hG
      obtain ⟨b, hb, hG2⟩ := Option.bind_eq_some_iff.mp hG
      have HT := Aside0.mk hb
      have HG2 := Aside0.mk hG2
      have HJ := Aside0.mk hlt
      clear hd hG hb hG2 HG
      have HX := Aside0.mk (heap_alloc_new wr (.cells #[.int .i64 y.f0, .int .i64 y.f1] 35 (0, 0)))
      have HBA := Aside0.mk (below_alloc (below_alloc HB.out (.cells #[.int .i64 y.f0, .int .i64 y.f1] 35)) (.cells #[.int .i64 (-1), .int .i64 1] 2))
      have HXA := Aside0.mk (blk_alloc HX.out (.cells #[.int .i64 (-1), .int .i64 1] 2))
      have HCA : Aside0 (Kd.C (Kd.int .i64) ((wr.alloc (.cells #[.int .i64 y.f0, .int .i64 y.f1] 35)).alloc (.cells #[.int .i64 (-1), .int .i64 1] 2)) (some ⟨wr.heap.size + 1, 0, none⟩) 2 [-1, 1]) := by
        have h := (Kd.R_reads' (d := Kd.int .i64) (Kd.R_of_own (enc := Value.int .i64) (h1 := fun _ => rfl) (ok := fun _ => True) (own_lit (wr.alloc (.cells #[.int .i64 y.f0, .int .i64 y.f1] 35)) 0 2 .i64 [-1, 1] (Nat.zero_le _) (by simp)) (fun _ _ => trivial))).2.2
        rw [show (wr.alloc (.cells #[.int .i64 y.f0, .int .i64 y.f1] 35)).heap.size = wr.heap.size + 1 by simp] at h
        exact ⟨h⟩
      obtain ⟨WA, hWA⟩ : ∃ WA, WA = ((wr.alloc (.cells #[.int .i64 y.f0, .int .i64 y.f1] 35)).alloc (.cells #[.int .i64 (-1), .int .i64 1] 2)) := ⟨_, rfl⟩
      have hsA : WA.heap.size = wr.heap.size + 2 := by rw [hWA]; simp
      rw [← hWA] at HBA HXA HCA
      have HWA := Aside0.mk hWA
      clear hWA
      go_wp2
      go_loopw [25] (fun i wr2 => ∃ jj : Nat, jj ≤ 2 ∧ i = .int .i64 jj ∧ Aside0 (impl_IsPlain.two k l0 y (([-1, 1] : List Int).drop jj) = some b) ∧ Aside0 (Below WA.heap.size WA wr2)) (fun i _ => 2 - (intOf i).toNat)
      case atStart => exact ⟨0, Nat.zero_le _, rfl, HT, ⟨by rw [HWA.out]; exact Below.refl _ _⟩⟩
      case round =>
        obtain ⟨jj, hj, rfl, HT2, HB2⟩ := hrel
        have HBW := Aside0.mk (below_step HBA.out HB2.out)
        have HX2 := Aside0.mk (blk_below HXA.out HB2.out)
        have z0 := (blk_cell HX2.out 0).trans rfl
        have z1 := (blk_cell HX2.out 1).trans rfl
        by_cases hlt2 : jj < 2
        · obtain ⟨ad2, e2, hx⟩ := Kd.at_int HCA.out (jj : Int) (by omega) (by omega)
          cases e2
          rw [Int.toNat_natCast, add_plain] at hx
          replace hx := pw_cell_below HB2.out hx
          have hd : ([-1, 1] : List Int).drop jj = rd ([-1, 1] : List Int) (jj : Int) :: ([-1, 1] : List Int).drop (jj + 1) := by
            rw [List.drop_eq_getElem_cons (by simpa using hlt2)]
            simp [rd, List.getD_eq_getElem?_getD, List.getElem?_eq_getElem (show jj < ([-1, 1] : List Int).length by simpa using hlt2)]
          have hT := HT2.out
          rw [hd] at hT
          generalize rd ([-1, 1] : List Int) (jj : Int) = s at hx hT
          unfold impl_IsPlain.two at hT
          obtain ⟨o, ho, hT2⟩ := Option.bind_eq_some_iff.mp hT
          have HT3 := Aside0.mk hT2
          unfold impl_IsPlain.one at ho
          obtain ⟨b1, hb1, ho1⟩ := Option.bind_eq_some_iff.mp ho
          obtain ⟨b2, hb2, ho2⟩ := Option.bind_eq_some_iff.mp ho1
          have HC1 := Aside0.mk hb1
          have HC2 := Aside0.mk hb2
          have HC3 := Aside0.mk ho2
          clear hT hT2 ho ho1 ho2 hb1 hb2 hd HT2
          obtain ⟨q0, hq0⟩ : ∃ q, wrap64 (y.f0 + s) = q := ⟨_, rfl⟩
          obtain ⟨q1, hq1⟩ : ∃ q, wrap64 (y.f1 + 1) = q := ⟨_, rfl⟩
          rw [hq0] at HC1 HC3
          rw [hq1] at HC2 HC3
          have HJ2 := Aside0.mk hlt2
          cases b1 with
          | true =>
            obtain rfl : true = b2 := Option.some.inj ((if_pos rfl).symm.trans HC2.out)
            obtain rfl : false = o := Option.some.inj ((if_pos rfl).symm.trans HC3.out)
            go_wp2_with (go_at_call 19; (with_reducible refine (impl_Cell_19.calls k _ _ l0 q0 y.f1 true _ (Kd.C_below HR.out HBW.out) hc0 HC1.out).mono ?_); rintro e w5 ⟨rfl, hb5⟩; have HB5 := Aside0.mk (below_step HB2.out hb5))
            go_roundw
            case rel => exact ⟨jj + 1, by omega, by go_num, HT3, HB5⟩
            case measure => have := HJ2.out; simp [intOf]; omega
          | false =>
            have hc2 : impl_Cell_19.f k l0 y.f0 q1 = some b2 := (if_neg (by decide)).symm.trans HC2.out
            have HC2' := Aside0.mk hc2
            clear hc2 HC2
            cases b2 with
            | true =>
              obtain rfl : false = o := Option.some.inj ((if_pos rfl).symm.trans HC3.out)
              go_wp2_with (first
                | (go_at_call 19; (with_reducible refine (impl_Cell_19.calls k _ _ l0 q0 y.f1 false _ (Kd.C_below HR.out HBW.out) hc0 HC1.out).mono ?_); rintro e w5 ⟨rfl, hb5⟩; have HB5 := Aside0.mk (below_step HB2.out hb5); have HW5 := Aside0.mk (below_step HBW.out hb5); have HX5 := Aside0.mk (blk_below HX2.out hb5); have u0 := (blk_cell HX5.out 0).trans rfl; have u1 := (blk_cell HX5.out 1).trans rfl)
                | (go_at_call 19; (with_reducible refine (impl_Cell_19.calls k _ _ l0 y.f0 q1 true _ (Kd.C_below HR.out HW5.out) hc0 HC2'.out).mono ?_); rintro e w6 ⟨rfl, hb6⟩; have HB6 := Aside0.mk (below_step HB5.out hb6)))
              go_roundw
              case rel => exact ⟨jj + 1, by omega, by go_num, HT3, HB6⟩
              case measure => have := HJ2.out; simp [intOf]; omega
            | false =>
              have hc3 : impl_Cell_19.f k l0 q0 q1 = some o := (if_neg (by decide)).symm.trans HC3.out
              have HC3' := Aside0.mk hc3
              clear hc3 HC3
              cases o with
              | true =>
                obtain rfl : true = b := Option.some.inj ((if_pos rfl).symm.trans HT3.out)
                obtain rfl : false = r := Option.some.inj ((if_pos rfl).symm.trans HG2.out)
                go_wp2_with (first
                  | (go_at_call 19; (with_reducible refine (impl_Cell_19.calls k _ _ l0 q0 y.f1 false _ (Kd.C_below HR.out HBW.out) hc0 HC1.out).mono ?_); rintro e w5 ⟨rfl, hb5⟩; have HW5 := Aside0.mk (below_step HBW.out hb5); have HX5 := Aside0.mk (blk_below HX2.out hb5); have u0 := (blk_cell HX5.out 0).trans rfl; have u1 := (blk_cell HX5.out 1).trans rfl)
                  | (go_at_call 19; (with_reducible refine (impl_Cell_19.calls k _ _ l0 y.f0 q1 false _ (Kd.C_below HR.out HW5.out) hc0 HC2'.out).mono ?_); rintro e w6 ⟨rfl, hb6⟩; have HW6 := Aside0.mk (below_step HW5.out hb6); have HX6 := Aside0.mk (blk_below HX5.out hb6); have v0 := (blk_cell HX6.out 0).trans rfl; have v1 := (blk_cell HX6.out 1).trans rfl)
                  | (go_at_call 19; (with_reducible refine (impl_Cell_19.calls k _ _ l0 q0 q1 true _ (Kd.C_below HR.out HW6.out) hc0 HC3'.out).mono ?_); rintro e w7 ⟨rfl, hb7⟩))
                go_ret
                exact ⟨rfl, below_step HW6.out hb7⟩
              | false =>
                go_wp2_with (first
                  | (go_at_call 19; (with_reducible refine (impl_Cell_19.calls k _ _ l0 q0 y.f1 false _ (Kd.C_below HR.out HBW.out) hc0 HC1.out).mono ?_); rintro e w5 ⟨rfl, hb5⟩; have HB5 := Aside0.mk (below_step HB2.out hb5); have HW5 := Aside0.mk (below_step HBW.out hb5); have HX5 := Aside0.mk (blk_below HX2.out hb5); have u0 := (blk_cell HX5.out 0).trans rfl; have u1 := (blk_cell HX5.out 1).trans rfl)
                  | (go_at_call 19; (with_reducible refine (impl_Cell_19.calls k _ _ l0 y.f0 q1 false _ (Kd.C_below HR.out HW5.out) hc0 HC2'.out).mono ?_); rintro e w6 ⟨rfl, hb6⟩; have HB6 := Aside0.mk (below_step HB5.out hb6); have HW6 := Aside0.mk (below_step HW5.out hb6); have HX6 := Aside0.mk (blk_below HX5.out hb6); have v0 := (blk_cell HX6.out 0).trans rfl; have v1 := (blk_cell HX6.out 1).trans rfl)
                  | (go_at_call 19; (with_reducible refine (impl_Cell_19.calls k _ _ l0 q0 q1 false _ (Kd.C_below HR.out HW6.out) hc0 HC3'.out).mono ?_); rintro e w7 ⟨rfl, hb7⟩; have HB7 := Aside0.mk (below_step HB6.out hb7)))
                go_roundw
                case rel => exact ⟨jj + 1, by omega, by go_num, HT3, HB7⟩
                case measure => have := HJ2.out; simp [intOf]; omega
        · have hkl : jj = 2 := by omega
          subst hkl
          obtain rfl : false = b := Option.some.inj HT2.out
          have HG3 := Aside0.mk ((if_neg (by decide)).symm.trans HG2.out)
          go_wp2
          go_roundw
          case rel => exact ⟨kk + 1, HJ.out, by go_num, HG3, HBW⟩
          case measure => have := HJ.out; simp [intOf]; omega
    · have hkl : kk = l0.length := by omega
      subst hkl
      have hG := HG.out
      rw [List.drop_length] at hG
      obtain rfl := Option.some.inj hG
      clear hG HG H
      go_wp2
      go_ret
      exact ⟨rfl, HB.out⟩

end Go.Proofs.Ytgfpmgmelhbkoaa.Q
