/- Written by a program of this session (wip/tools/pp.py) out of the translation, with the kit's printer. -/
import Derived.Test.YtjgnlakgojookaaQ0
import Derived.Test.YtjgnlakgojookaaQGspecl09Connected
import Derived.Test.YtjgnlakgojookaaQGimplnewFrame
import Derived.Test.YtjgnlakgojookaaQ14
import Derived.Test.YtjgnlakgojookaaQGimplframetouch
import Derived.Test.YtjgnlakgojookaaQGimplframealone
import Derived.Test.YtjgnlakgojookaaQGimplframeareOffsets
import Derived.Test.YtjgnlakgojookaaQGimplvectorOf
import Derived.Test.YtjgnlakgojookaaQGimplframeleaves
import Derived.Test.YtjgnlakgojookaaQGimplCube104
import Derived.LoopTactic
namespace Go.Proofs.Ytjgnlakgojookaa.Q
open Go.RowKit Go.Proofs.YtjgnlakgojookaaW.PrintWords Go.Proofs.YtjgnlakgojookaaW.PrintLast Go.Proofs.YtjgnlakgojookaaW.PrintMore
attribute [local go_sem] max2_int min2_int max_two min_two max_three min_three max_four min_four
set_option linter.unusedVariables false
set_option linter.unusedSimpArgs false

/-! ### impl_frame_after: walked by hand -/
/-- Part k is in the set. -/
def bitM (s : Nat) (k : Nat) : Bool := Go.bits .and .i64 ((s : Int) / 2 ^ k) 1 == 1
/-- The offsets behind a move: set s, direction d. -/
def aftG (s : Nat) (d : Int) : Nat → List S71 → List S71
  | _, [] => []
  | k, q :: r => (if bitM s k = true then addS q (vecC d) else q) :: aftG s d (k + 1) r
/-- A number that is no move of n parts. -/
def badM (n : Nat) (m : Int) : Bool := decide (m < 6) || (decide ((2 : Int) ^ n ≤ m / 6) || (m / 6 % 2 == 1))
def resG (n : Nat) (l : List S71) (m : Int) : List S71 := if badM n m = true then [] else aftG (m / 6).toNat (m % 6) 0 l
def possG (ps : List (List S71)) (l : List S71) (m : Int) : Bool := if badM ps.length m = true then false else offsC ps (aftG (m / 6).toNat (m % 6) 0 l)
theorem aftG_len (s : Nat) (d : Int) : ∀ (k : Nat) (l : List S71), (aftG s d k l).length = l.length
  | _, [] => rfl
  | k, q :: r => by rw [aftG, List.length_cons, aftG_len s d (k + 1) r, List.length_cons]
theorem aft_put {T acc : List S71} {s : Nat} {d : Int} {kk : Nat} (h : T = acc.take kk ++ aftG s d kk (acc.drop kk)) (hk : kk < acc.length) (hb : bitM s kk = true) : T = (acc.set kk (addS (rd_T71 acc kk) (vecC d))).take (kk + 1) ++ aftG s d (kk + 1) ((acc.set kk (addS (rd_T71 acc kk) (vecC d))).drop (kk + 1)) := by
  have hd : acc.drop kk = rd_T71 acc kk :: acc.drop (kk + 1) := by
    rw [List.drop_eq_getElem_cons hk]
    simp [rd_T71, List.getD_eq_getElem?_getD, List.getElem?_eq_getElem hk]
  rw [h, hd, aftG, if_pos hb, List.drop_set_of_lt (by omega), List.take_add_one, List.getElem?_set_self hk, List.take_set_of_le (Nat.le_refl _)]
  simp
theorem aft_keep {T acc : List S71} {s : Nat} {d : Int} {kk : Nat} (h : T = acc.take kk ++ aftG s d kk (acc.drop kk)) (hk : kk < acc.length) (hb : bitM s kk = false) : T = acc.take (kk + 1) ++ aftG s d (kk + 1) (acc.drop (kk + 1)) := by
  have hd : acc.drop kk = acc[kk] :: acc.drop (kk + 1) := List.drop_eq_getElem_cons hk
  rw [h, hd, aftG, hb, List.take_add_one, List.getElem?_eq_getElem hk]
  simp only [Bool.false_eq_true, if_false, Option.toList_some, List.append_assoc, List.cons_append, List.nil_append]
theorem row_cells {w : World} {base g n cap : Nat} {ok : Nat → Prop} {l : List S71} (h : Kd.R k71 71 w base ok (.slice (some ⟨g, 0, none⟩) n cap) l) (kk : Nat) (hk : kk < n) :
    (w.cell? ⟨g, kk * 3, none⟩ = some (.int .i64 (rd_T71 l kk).f0) ∧ w.cell? ⟨g, kk * 3 + 1, none⟩ = some (.int .i64 (rd_T71 l kk).f1) ∧ w.cell? ⟨g, kk * 3 + 2, none⟩ = some (.int .i64 (rd_T71 l kk).f2)) ∧ ∀ j, w.frozen? ⟨g, kk * 3 + j, none⟩ = false := by
  obtain ⟨ce, hcl, hM, hcc, hfr⟩ := Kd.R_elem h z71 (kk : Int) (by omega) (by omega)
  obtain rfl := k71_openM hM
  exact ⟨⟨hcc 0 _ rfl, hcc 1 _ rfl, hcc 2 _ rfl⟩, hfr⟩
theorem row_put {w : World} {base g n cap : Nat} {ok : Nat → Prop} {l : List S71} (h : Kd.R k71 71 w base ok (.slice (some ⟨g, 0, none⟩) n cap) l) (kk : Nat) (hk : kk < n) (q : S71) :
    Kd.R k71 71 (((w.setCell ⟨g, kk * 3, none⟩ (.int .i64 q.f0)).setCell ⟨g, kk * 3 + 1, none⟩ (.int .i64 q.f1)).setCell ⟨g, kk * 3 + 2, none⟩ (.int .i64 q.f2)) base ok (.slice (some ⟨g, 0, none⟩) n cap) (l.set kk q) := by
  obtain ⟨ce, hcl, hM, hcc, hfr⟩ := Kd.R_elem h z71 (kk : Int) (by omega) (by omega)
  obtain rfl := k71_openM hM
  have := Kd.R_seg h (kk : Int) (by omega) (by omega) (seg := [.int .i64 q.f0, .int .i64 q.f1, .int .i64 q.f2]) (j := 0) (x' := q) (okp := fun k => ok k ∧ k ≠ g) hcl hcc (show 3 ≤ 3 from by omega) (k71_mkM _ _ _ q) (fun _ h => h)
  exact this.1
set_option maxRecDepth 100000 in
set_option maxHeartbeats 2000000 in
theorem impl_frame_after.calls (w0 w : World) (F M : Nat) (A : Option Addr) (c : Nat) (ps : List (List S71)) (n : Nat) (Al : Option Addr) (cl : Nat) (l : List S71) (m : Int) (hf : Frm w0 w F M A c ps n) (hr : Kd.C k71 w Al l.length l) (hcl : l.length ≤ cl) (hl : l.length = ps.length) (hp1 : 1 ≤ ps.length) (hp4 : ps.length ≤ 4) (hm : m ≤ 9223372036854775807) (hn : n < 700000000) :
    Calls Try.prog 81 #[.pointer (some ⟨F, 0, none⟩), .slice Al l.length cl, .int .i64 m] w fun e w' => ∃ v : Value, e = .returned (.tuple #[v, .bool (possG ps l m)]) ∧ Kd.R k71 71 w' w.heap.size (fun _ => True) v (resG ps.length l m) ∧ Frm w0 w' F M A c ps (n + 16) ∧ Kept w w' (fun k => k = M) := by
  have HF := Aside0.mk hf
  have HR := Aside0.mk hr
  have hu110 := Try.underlying110
  have hu71 := Try.underlying71
  have f0 := (blk_cell hf.hF 0).trans rfl
  have lM := Frm.Mlt hf
  have hle : l.length ≤ ps.length := Nat.le_of_eq hl
  have hge : ps.length ≤ l.length := Nat.le_of_eq hl.symm
  have HL := Aside0.mk hl
  clear hf hr hl
  by_cases h6 : m < 6
  · have hb : badM ps.length m = true := by unfold badM; rw [decide_eq_true h6, Bool.true_or]
    have e1 : possG ps l m = false := by unfold possG; rw [if_pos hb]
    have e2 : resG ps.length l m = [] := by unfold resG; rw [if_pos hb]
    rw [e1, e2]
    have d6 : decide (m < 6) = true := decide_eq_true h6
    clear h6 hb e1 e2
    go_enter Try.func81, Try.ntmps81
    go_wp2
    go_ret2
    exact ⟨_, rfl, Kd.R_nil _ _ _ _ _, Frm.more HF.out (by omega), Kept.refl _ _⟩
  · obtain ⟨mm, rfl⟩ := Int.eq_ofNat_of_zero_le (show 0 ≤ m by omega)
    have d6 : decide ((mm : Int) < 6) = false := decide_eq_false h6
    have hw : wrap64 ((2 : Int) ^ ps.length) = (2 : Int) ^ ps.length := by
      obtain h | h | h | h : ps.length = 1 ∨ ps.length = 2 ∨ ps.length = 3 ∨ ps.length = 4 := by omega
      all_goals (rw [h]; unfold wrap64; omega)
    by_cases hs : (2 : Int) ^ ps.length ≤ (mm : Int) / 6
    · have hb : badM ps.length (mm : Int) = true := by unfold badM; rw [decide_eq_true hs, Bool.true_or, Bool.or_true]
      have e1 : possG ps l (mm : Int) = false := by unfold possG; rw [if_pos hb]
      have e2 : resG ps.length l (mm : Int) = [] := by unfold resG; rw [if_pos hb]
      rw [e1, e2]
      have hs1 := eq_true (show wrap64 ((2 : Int) ^ ps.length) ≤ (mm : Int) / 6 by rw [hw]; exact hs)
      have hs2 := eq_false (show ¬ ((mm : Int) / 6 < wrap64 ((2 : Int) ^ ps.length)) by rw [hw]; omega)
      clear h6 hb e1 e2 hw hs
      go_enter Try.func81, Try.ntmps81
      go_wp2
      go_ret2
      exact ⟨_, rfl, Kd.R_nil _ _ _ _ _, Frm.more HF.out (by omega), Kept.refl _ _⟩
    · have hs1 := eq_false (show ¬ (wrap64 ((2 : Int) ^ ps.length) ≤ (mm : Int) / 6) by rw [hw]; exact hs)
      have hs2 := eq_true (show (mm : Int) / 6 < wrap64 ((2 : Int) ^ ps.length) by rw [hw]; omega)
      cases ho : ((mm : Int) / 6 % 2 == 1) with
      | true =>
        have hb : badM ps.length (mm : Int) = true := by unfold badM; rw [ho, Bool.or_true, Bool.or_true]
        have e1 : possG ps l (mm : Int) = false := by unfold possG; rw [if_pos hb]
        have e2 : resG ps.length l (mm : Int) = [] := by unfold resG; rw [if_pos hb]
        rw [e1, e2]
        clear h6 hb e1 e2 hw hs
        go_enter Try.func81, Try.ntmps81
        go_wp2
        go_ret2
        exact ⟨_, rfl, Kd.R_nil _ _ _ _ _, Frm.more HF.out (by omega), Kept.refl _ _⟩
      | false =>
        have hb : badM ps.length (mm : Int) = false := by unfold badM; rw [ho, d6, decide_eq_false hs]; rfl
        have e1 : possG ps l (mm : Int) = offsC ps (aftG ((mm : Int) / 6).toNat ((mm : Int) % 6) 0 l) := by unfold possG; rw [hb]; rfl
        have e2 : resG ps.length l (mm : Int) = aftG ((mm : Int) / 6).toNat ((mm : Int) % 6) 0 l := by unfold resG; rw [hb]; rfl
        rw [e1, e2]
        obtain ⟨s, hse⟩ : ∃ s : Nat, s = ((mm : Int) / 6).toNat := ⟨_, rfl⟩
        have hse2 : (mm : Int) / 6 = (s : Int) := by omega
        have hse3 : (((mm : Int) / 6).toNat : Int) = (s : Int) := by omega
        rw [hse2] at hs1 hs2 ho
        rw [← hse]
        obtain ⟨d, hd⟩ : ∃ d : Int, (mm : Int) % 6 = d := ⟨_, rfl⟩
        have hd0 : 0 ≤ d := by omega
        have hd1 : d < 6 := by omega
        rw [hd]
        clear h6 hb e1 e2 hw hs hse
        obtain ⟨T, hT⟩ : ∃ T, T = aftG s d 0 l := ⟨_, rfl⟩
        have hTl : T.length = l.length := by rw [hT, aftG_len]
        rw [← hT]
        have HT := Aside0.mk hT
        clear hT
        go_enter Try.func81, Try.ntmps81
        go_wp2_with (go_at_call 104; (with_reducible refine (impl_Cube_104.calls _ _ l l _ HR.out hcl (by omega) rfl).mono ?_); rintro e w2 ⟨v2, rfl, ho2, hb2⟩; have HO2 := Aside0.mk ho2; have HB2 := Aside0.mk hb2; obtain ⟨g2, c2, e2, hg2, hg2s, _⟩ := Kd.R_form ho2 (by omega); subst e2; clear ho2 hb2)
        go_loopw [35] (fun i wr => ∃ (kk : Nat) (acc : List S71), kk ≤ l.length ∧ i = .int .i64 kk ∧ Aside0 (acc.length = l.length) ∧ Aside0 (T = acc.take kk ++ aftG s d kk (acc.drop kk)) ∧ Aside0 (Kd.R k71 71 wr w.heap.size (fun _ => True) (.slice (some ⟨g2, 0, none⟩) l.length c2) acc) ∧ Aside0 (Below w.heap.size w wr)) (fun i _ => l.length - (intOf i).toNat)
        case atStart => exact ⟨0, l, Nat.zero_le _, rfl, ⟨rfl⟩, ⟨by simpa using HT.out⟩, HO2, HB2⟩
        case round =>
          clear f0 HO2 HB2 hg2s
          obtain ⟨kk, acc, hk, rfl, HAL, HTT, HO, HB⟩ := hrel
          by_cases hlt : kk < l.length
          · have hw8 : IntKind.u64.wrap (kk : Int) = (kk : Int) := by show (kk : Int) % 18446744073709551616 = _; omega
            cases hbit : bitM s kk with
            | false =>
              have hb2 := hbit
              unfold bitM at hb2
              go_wp2
              go_roundw
              case rel => exact ⟨kk + 1, acc, by omega, by go_num, HAL, ⟨aft_keep HTT.out (by have := HAL.out; omega) hbit⟩, HO, HB⟩
              case measure => simp [intOf]; omega
            | true =>
              have hb2 := hbit
              unfold bitM at hb2
              have HTP := Aside0.mk (aft_put HTT.out (by have := HAL.out; omega) hbit)
              obtain ⟨⟨x0, x1, x2⟩, _⟩ := row_cells HO.out kk hlt
              have HVC := Aside0.mk (vec_call d hd0 hd1)
              generalize rd_T71 acc kk = o at x0 x1 x2 HTP
              generalize vecC d = v at HVC HTP
              generalize hq : addS o v = q at HTP
              have e0 : wrap64 (o.f0 + v.f0) = q.f0 := by rw [← hq]; rfl
              have e1 : wrap64 (o.f1 + v.f1) = q.f1 := by rw [← hq]; rfl
              have e2 : wrap64 (o.f2 + v.f2) = q.f2 := by rw [← hq]; rfl
              have HPC := Aside0.mk (fun (w1 : World) => (impl_plusCube.calls o.f0 o.f1 o.f2 v.f0 v.f1 v.f2 q.f0 q.f1 q.f2 w1 (by unfold impl_plusCube.f; rw [e0, e1, e2])))
              clear e0 e1 e2 hq
              have htm : (mm : Int).tmod 6 = d := by rw [Int.tmod_eq_emod_of_nonneg (by omega)]; exact hd
              have hwd : IntKind.i64.wrap d = d := (i64_w _).trans (by unfold wrap64; omega)
              go_upto_region 9 with (fail)
              go_region_with (first
                | (go_at_call 103; refine (HVC.out _).mono ?_; rintro e w5 ⟨rfl, hb5⟩; have HB5 := Aside0.mk (below_step (w := wr) (by with_reducible repeat (first | exact Below.refl _ _ | apply below_drew1)) hb5); have HO5 := Aside0.mk (Kd.R_below HO.out HB5.out); have y0 := pw_cell_below HB5.out x0; have y1 := pw_cell_below HB5.out x1; have y2 := pw_cell_below HB5.out x2; clear hb5)
                | (go_at_call 102; refine (HPC.out _).mono ?_; rintro e w6 ⟨rfl, hb6⟩; have HB6 := Aside0.mk (below_step HB5.out hb6); have HO6 := Aside0.mk (Kd.R_below HO.out HB6.out); have z0 := pw_cell_below HB6.out x0; have z1 := pw_cell_below HB6.out x1; have z2 := pw_cell_below HB6.out x2; have m0 : w6.frozen? ⟨g2, kk * 3, none⟩ = false := (row_cells HO6.out kk hlt).2 0; have m1 := (row_cells HO6.out kk hlt).2 1; have m2 := (row_cells HO6.out kk hlt).2 2; clear hb6)
                | fail)
              all_goals (
                have HP := Aside0.mk (row_put HO6.out kk hlt q)
                go_wp2
                go_roundw
                case rel => exact ⟨kk + 1, acc.set kk q, by omega, by go_num, ⟨by rw [List.length_set]; exact HAL.out⟩, HTP, HP, ⟨by
                  have hbb := below_step HB.out HB6.out
                  exact ((hbb.setCell hg2 _).setCell hg2 _).setCell hg2 _⟩⟩
                case measure => simp [intOf]; omega)
          · have hkl : kk = l.length := by omega
            have hTa : T = acc := by
              have := HTT.out
              rw [hkl, List.take_of_length_le (by rw [HAL.out]; exact Nat.le_refl _), List.drop_of_length_le (by rw [HAL.out]; exact Nat.le_refl _), aftG, List.append_nil] at this
              exact this
            have hA := impl_frame_areOffsets.calls w0 wr F M A c ps n (some ⟨g2, 0, none⟩) c2 acc (Frm.below HF.out HB.out) (Kd.R_reads' HO.out).2.2 (by rw [HAL.out]; exact (Kd.R_reads' HO.out).2.1) hp4 hp1 (by omega)
            rw [HAL.out] at hA
            have HA := Aside0.mk hA
            clear hA hkl
            subst hTa
            go_wp2_with (go_at_call 68; refine HA.out.mono ?_; rintro e w7 ⟨rfl, hf7, hk7⟩)
            go_ret2
            have hR7 := Kd.R_mono (ok' := fun _ => True) (Kd.R_step (Kd.R_bound HO.out) (fun k ho hlt => hk7.2 k hlt (fun e => by have := ho.2.1; omega))) (fun _ _ => trivial)
            exact ⟨_, rfl, hR7, hf7, kept_then (Kept.of_below HB.out _) hk7⟩

end Go.Proofs.Ytjgnlakgojookaa.Q
