/- Written by a program of this session (wip/tools/pp.py) out of the translation, with the kit's printer. -/
import Derived.Test.YtjgnlakgojookaaQ0
import Derived.Test.YtjgnlakgojookaaQ1
import Derived.Test.YtjgnlakgojookaaQGimplnewFrame
import Derived.Test.YtjgnlakgojookaaQ14
import Derived.Test.YtjgnlakgojookaaQGimplframetouch
import Derived.Test.YtjgnlakgojookaaQGimplframealone
import Derived.Test.YtjgnlakgojookaaQGimplframeclear
import Derived.LoopTactic
namespace Go.Proofs.Ytjgnlakgojookaa.Q
open Go.RowKit Go.Proofs.YtjgnlakgojookaaW.PrintWords Go.Proofs.YtjgnlakgojookaaW.PrintLast Go.Proofs.YtjgnlakgojookaaW.PrintMore
attribute [local go_sem] max2_int min2_int max_two min_two max_three min_three max_four min_four
set_option linter.unusedVariables false
set_option linter.unusedSimpArgs false

/-! ### impl_frame_areOffsets: walked by hand -/
def inL (lo hi : Int) (q : S71) : Bool := insC q.f0 q.f1 q.f2 lo hi
set_option maxHeartbeats 800000 in
theorem impl_frame_areOffsets.lit (q : S71) (w : World) :
    Calls Try.prog 100 #[.agg #[.int .i64 q.f0, .int .i64 q.f1, .int .i64 q.f2]] w fun e w' => e = .returned (.bool (!inL (-12) 12 q)) ∧ Below w.heap.size w w' := by
  have h := inC_eq q.f0 q.f1 q.f2 (-12) 12
  have hu71 := Try.underlying71
  go_enter Try.func100, Try.ntmps100
  go_wp2_with (go_at_call 63; (with_reducible refine (impl_inCube.calls _ _ _ _ _ _ _ h).mono ?_); rintro e w1 ⟨rfl, hb1⟩)
  go_ret
  exact ⟨rfl, below_step (below_alloc (Below.refl _ _) _) hb1⟩
set_option maxRecDepth 100000 in
set_option maxHeartbeats 800000 in
theorem impl_frame_areOffsets.idx (A : Option Addr) (c : Nat) (l : List S71) (w : World) (hr : Kd.C k71 w A l.length l) :
    Calls Try.prog 98 #[.slice A l.length c, .func (.func 100) #[] #[]] w fun e w' => (∃ j : Int, Aside0 (l.all (inL (-12) 12) = decide (j < 0)) ∧ e = .returned (.int .i64 j)) ∧ Below w.heap.size w w' := by
  have hlen := hr.2.1
  have HR := Aside0.mk hr
  clear hr
  go_enter Try.func98, Try.ntmps98
  go_wp2
  go_loopw [8] (fun i wr => ∃ kk : Nat, kk ≤ l.length ∧ i = .int .i64 kk ∧ Aside0 (l.all (inL (-12) 12) = (l.drop kk).all (inL (-12) 12)) ∧ Aside0 (Below w.heap.size w wr)) (fun i _ => l.length - (intOf i).toNat)
  case atStart => exact ⟨0, Nat.zero_le _, rfl, ⟨rfl⟩, ⟨Below.refl _ _⟩⟩
  case round =>
    obtain ⟨kk, hk, rfl, HG, HBL⟩ := hrel
    by_cases hlt : kk < l.length
    · obtain ⟨ad, e, r0, r1, r2⟩ := at_T71 (Kd.C_below HR.out HBL.out) (kk : Int) (by omega) (by omega)
      subst e
      have hd : l.drop kk = rd_T71 l kk :: l.drop (kk + 1) := by
        rw [List.drop_eq_getElem_cons hlt]
        simp [rd_T71, List.getD_eq_getElem?_getD, List.getElem?_eq_getElem hlt]
      have HG2 := HG.out
      rw [hd, List.all_cons] at HG2
      clear hd
      rw [Int.toNat_natCast] at r0 r1 r2
      generalize rd_T71 l kk = q at HG2 r0 r1 r2
      have hlit := fun w : World => impl_frame_areOffsets.lit q w
      cases hq : inL (-12) 12 q with
      | true =>
        rw [hq, Bool.true_and] at HG2
        rw [hq] at hlit
        have HG3 := Aside0.mk HG2
        clear HG2
        go_wp2_with (go_at_call 100; refine (hlit _).mono ?_; rintro e w1 ⟨rfl, hb1⟩)
        go_roundw
        case rel => exact ⟨kk + 1, by omega, by go_num, HG3, ⟨below_step HBL.out hb1⟩⟩
        case measure => simp [intOf]; omega
      | false =>
        rw [hq, Bool.false_and] at HG2
        rw [hq] at hlit
        have HG3 := Aside0.mk HG2
        clear HG2
        go_wp2_with (go_at_call 100; refine (hlit _).mono ?_; rintro e w1 ⟨rfl, hb1⟩)
        go_ret
        exact ⟨⟨_, ⟨by rw [HG3.out]; simp⟩, rfl⟩, below_step HBL.out hb1⟩
    · have hkl : kk = l.length := by omega
      have HG2 := HG.out
      rw [hkl, List.drop_length] at HG2
      have HR2 := Aside0.mk HG2
      clear HG2 hkl
      go_wp2
      go_ret
      exact ⟨⟨_, ⟨by rw [HR2.out]; rfl⟩, rfl⟩, HBL.out⟩
set_option maxHeartbeats 800000 in
theorem impl_frame_areOffsets.has (A : Option Addr) (c : Nat) (l : List S71) (w : World) (hr : Kd.C k71 w A l.length l) :
    Calls Try.prog 61 #[.slice A l.length c, .func (.func 100) #[] #[]] w fun e w' => e = .returned (.bool (!l.all (inL (-12) 12))) ∧ Below w.heap.size w w' := by
  have hc := impl_frame_areOffsets.idx A c l w hr
  clear hr
  go_enter Try.func61, Try.ntmps61
  go_wp2_with (go_at_call 98; refine hc.mono ?_; rintro e w1 ⟨⟨j, hj, rfl⟩, hb1⟩)
  go_ret
  refine ⟨?_, hb1⟩
  rw [hj.out]
  congr 2
  by_cases e : j < 0
  · simp [e]
  · simp [e]
    omega
/-- Offsets that are clear. -/
def offsC (ps : List (List S71)) : List S71 → Bool
  | [] => false
  | q :: r => decide ((q :: r).length = ps.length) && ((q.f0 == 0 && (q.f1 == 0 && q.f2 == 0)) && ((q :: r).all (inL (-12) 12) && clearG ps (q :: r) 0 (q :: r)))
attribute [local go_sem high] eqA71
set_option maxRecDepth 100000 in
set_option maxHeartbeats 1000000 in
theorem impl_frame_areOffsets.calls (w0 w : World) (F M : Nat) (A : Option Addr) (c : Nat) (ps : List (List S71)) (n : Nat) (Al : Option Addr) (cl : Nat) (l : List S71) (hf : Frm w0 w F M A c ps n) (hr : Kd.C k71 w Al l.length l) (hcl : l.length ≤ cl) (hp4 : ps.length ≤ 4) (hp1 : 1 ≤ ps.length) (hn : n < 800000000) :
    Calls Try.prog 68 #[.pointer (some ⟨F, 0, none⟩), .slice Al l.length cl] w fun e w' => e = .returned (.bool (offsC ps l)) ∧ Frm w0 w' F M A c ps (n + 16) ∧ Kept w w' (fun k => k = M) := by
  have HF := Aside0.mk hf
  have HR := Aside0.mk hr
  have f0 := (blk_cell hf.hF 0).trans rfl
  have hpl := hf.C0.2.1
  have hll := hr.2.1
  have hu71 := Try.underlying71
  have hu110 := Try.underlying110
  have hhas := impl_frame_areOffsets.has Al cl l w hr
  clear hf hr
  cases hl : ((l.length : Int) == (ps.length : Int)) with
  | false =>
    have hl2 : ((l.length : Int) != (ps.length : Int)) = true := by simpa using hl
    have he : offsC ps l = false := by
      cases l with
      | nil => rfl
      | cons q r =>
        have : ¬ (q :: r).length = ps.length := by simp at hl ⊢; omega
        simp only [offsC]
        rw [decide_eq_false this, Bool.false_and]
    rw [he]
    clear he
    go_enter Try.func68, Try.ntmps68
    go_wp2
    go_ret
    exact ⟨rfl, HF.out.more (by omega), Kept.refl _ _⟩
  | true =>
    have hl2 : ((l.length : Int) != (ps.length : Int)) = false := by simpa using hl
    have hl3 : l.length = ps.length := by simp at hl; omega
    obtain ⟨q, r, e⟩ : ∃ q r, l = q :: r := by
      cases l with
      | nil => simp at hl3; omega
      | cons q r => exact ⟨q, r, rfl⟩
    obtain ⟨ad, e2, r0, r1, r2⟩ := at_T71 HR.out (0 : Int) (by omega) (by omega)
    have e3 : rd_T71 l 0 = q := by rw [e]; rfl
    rw [e3] at r0 r1 r2
    rw [show (ad.add (Int.toNat 0 * 3)) = ad by unfold Addr.add; simp] at r0 r1 r2
    have ho : offsC ps l = ((q.f0 == 0 && (q.f1 == 0 && q.f2 == 0)) && (l.all (inL (-12) 12) && clearG ps l 0 l)) := by
      rw [e] at hl3 ⊢
      simp only [offsC]
      rw [decide_eq_true hl3, Bool.true_and]
    rw [ho]
    have hp0 : (0 : Int) < l.length := by omega
    have HL3 := Aside0.mk hl3
    have HHAS := Aside0.mk hhas
    subst e2
    clear ho e3 e hl3 hhas
    cases hz : (q.f0 == 0 && (q.f1 == 0 && q.f2 == 0)) with
    | false =>
      rw [Bool.false_and]
      go_enter Try.func68, Try.ntmps68
      go_wp2
      go_ret
      exact ⟨rfl, HF.out.more (by omega), Kept.refl _ _⟩
    | true =>
      rw [Bool.true_and]
      cases ha : l.all (inL (-12) 12) with
      | false =>
        rw [ha] at HHAS
        rw [Bool.false_and]
        clear ha
        go_enter Try.func68, Try.ntmps68
        go_wp2_with (go_at_call 61; refine HHAS.out.mono ?_; rintro e w1 ⟨rfl, hb1⟩)
        go_ret
        exact ⟨rfl, (HF.out.below hb1).more (by omega), Kept.of_below hb1 _⟩
      | true =>
        rw [ha] at HHAS
        rw [Bool.true_and]
        clear ha
        go_enter Try.func68, Try.ntmps68
        go_wp2_with (first
          | (go_at_call 61; refine HHAS.out.mono ?_; rintro e w1 ⟨rfl, hb1⟩)
          | (go_at_call 65; refine (impl_frame_clear.calls w0 _ F M A c ps n (some ad) cl l (HF.out.below hb1) (Kd.C_below HR.out hb1) hcl (by have := HL3.out; omega) (by have := HL3.out; omega) hn).mono ?_; rintro e w2 ⟨rfl, hf2, hk2⟩))
        go_ret
        exact ⟨rfl, hf2, kept_then (Kept.of_below hb1 _) hk2⟩

end Go.Proofs.Ytjgnlakgojookaa.Q
