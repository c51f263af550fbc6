/- Written by a program of this session (wip/tools/pp.py) out of the translation, with the kit's printer. -/
import Derived.Test.YtjgnlakgojookaaQ0
import Derived.Test.YtjgnlakgojookaaQGspecl09Connected
import Derived.Test.YtjgnlakgojookaaQGimplnewFrame
import Derived.Test.YtjgnlakgojookaaQ14
import Derived.Test.YtjgnlakgojookaaQGimplframetouch
import Derived.Test.YtjgnlakgojookaaQGimplframealone
import Derived.Test.YtjgnlakgojookaaQGimplvectorOf
import Derived.LoopTactic
import Derived.Deep.RegionWith
namespace Go.Proofs.Ytjgnlakgojookaa.Q
open Go.RowKit Go.Proofs.YtjgnlakgojookaaW.PrintWords Go.Proofs.YtjgnlakgojookaaW.PrintLast Go.Proofs.YtjgnlakgojookaaW.PrintMore
attribute [local go_sem] max2_int min2_int max_two min_two max_three min_three max_four min_four
set_option linter.unusedVariables false
set_option linter.unusedSimpArgs false

/-! ### impl_frame_leaves: walked by hand -/
def leavesG (ps : List (List S71)) (l : List S71) (part d : Int) : Nat → S71 → Bool
  | 0, _ => true
  | n + 1, o => aloneG ps part (addS o (vecC d)).f0 (addS o (vecC d)).f1 (addS o (vecC d)).f2 0 l && leavesG ps l part d n (addS o (vecC d))
theorem Frm.set {w0 w : World} {F M : Nat} {A : Option Addr} {c : Nat} {ps : List (List S71)} {n : Nat} (h : Frm w0 w F M A c ps n) {g : Nat} (h0 : w0.heap.size ≤ g) (hF : F ≠ g) (hM : M ≠ g) (i : Nat) (u : Value) : Frm w0 (w.setCell ⟨g, i, none⟩ u) F M A c ps n := by
  obtain ⟨L, hv, hl, hp⟩ := h.hM
  have hs : (w.setCell ⟨g, i, none⟩ u).heap.size = w.heap.size := by simp
  have hg : w.grownBy (w.setCell ⟨g, i, none⟩ u) (some g) := ⟨rfl, rfl, rfl, by omega, fun k hk hn => Below.heap_setCell w ⟨g, i, none⟩ u k (fun e => hn (by rw [e]))⟩
  exact ⟨below_set h.bel h0, (Below.heap_setCell w ⟨g, i, none⟩ u F hF).trans h.hF, ⟨L, hv.kept hg (fun e => hM (Option.some.inj e)), hl, hp⟩, h.lo, h.C0, h.hc⟩
theorem Frm.Mlt {w0 w : World} {F M : Nat} {A : Option Addr} {c : Nat} {ps : List (List S71)} {n : Nat} (h : Frm w0 w F M A c ps n) : M < w.heap.size := by
  obtain ⟨L, hv, _⟩ := h.hM
  exact hv.lt
theorem vec_call (d : Int) (h0 : 0 ≤ d) (h1 : d < 6) (w : World) : Calls Try.prog 103 #[.int .i64 d] w fun e w' => e = .returned (.agg #[.int .i64 (vecC d).f0, .int .i64 (vecC d).f1, .int .i64 (vecC d).f2]) ∧ Below w.heap.size w w' :=
  impl_vectorOf.calls d _ _ _ w (by unfold impl_vectorOf.f; rw [if_pos ⟨h0, h1⟩])
set_option maxRecDepth 100000 in
set_option maxHeartbeats 2000000 in
theorem impl_frame_leaves.calls (w0 w : World) (F M : Nat) (A : Option Addr) (c : Nat) (ps : List (List S71)) (n : Nat) (Al : Option Addr) (cl : Nat) (l : List S71) (part d : Int) (hf : Frm w0 w F M A c ps n) (hr : Kd.C k71 w Al l.length l) (hl : l.length ≤ ps.length) (hl4 : l.length ≤ 4) (hp0 : 0 ≤ part) (hp1 : part < l.length) (hd0 : 0 ≤ d) (hd1 : d < 6) (hn : n < 700000000) :
    Calls Try.prog 76 #[.pointer (some ⟨F, 0, none⟩), .slice Al l.length cl, .int .i64 part, .int .i64 d] w fun e w' => e = .returned (.bool (leavesG ps l part d 40 (rd_T71 l part))) ∧ Frm w0 w' F M A c ps (n + 160) ∧ Kept w w' (fun k => k = M) := by
  have HF := Aside0.mk hf
  have HR := Aside0.mk hr
  have hu71 := Try.underlying71
  have lF := blk_lt hf.hF
  have lM := hf.Mlt
  have hbs := hf.bel.size
  obtain ⟨ad, e, q0, q1, q2⟩ := at_T71 hr part hp0 hp1
  subst e
  clear hf hr
  obtain ⟨R, hR⟩ : ∃ R, R = leavesG ps l part d 40 (rd_T71 l part) := ⟨_, rfl⟩
  rw [← hR]
  have HR0 := Aside0.mk hR
  clear hR
  go_enter Try.func76, Try.ntmps76
  go_wp2
  go_loopw [14] (fun i wr => ∃ (kk : Nat) (o : S71), kk ≤ 40 ∧ i = .int .i64 kk ∧ Aside0 (R = leavesG ps l part d (40 - kk) o) ∧ Aside0 (Frm w0 wr F M (A) c ps (n + 4 * kk)) ∧ Aside0 (wr.heap[w.heap.size]? = some (.cells #[.int .i64 o.f0, .int .i64 o.f1, .int .i64 o.f2] 71 (0, 0))) ∧ Aside0 (Kept w wr (fun k => k = M))) (fun i _ => 40 - (intOf i).toNat)
  case atStart => exact ⟨0, _, by omega, rfl, HR0, ⟨HF.out.below (below_alloc (Below.refl _ _) _)⟩, ⟨heap_alloc_new w _⟩, ⟨Kept.of_below (below_alloc (Below.refl _ _) _) _⟩⟩
  case round =>
    clear q0 q1 q2
    obtain ⟨kk, o, hk, rfl, HG, HFr, HB, HK⟩ := hrel
    by_cases hlt : kk < 40
    · have HG2 := HG.out
      rw [show 40 - kk = (40 - (kk + 1)) + 1 by omega, leavesG] at HG2
      have hA := fun (w1 : World) (hf1 : Frm w0 w1 F M A c ps (n + 4 * kk)) (hk1 : Kept w w1 (fun k => k = M)) => impl_frame_alone.calls w0 w1 F M A c ps (n + 4 * kk) (some ad) cl l part (addS o (vecC d)).f0 (addS o (vecC d)).f1 (addS o (vecC d)).f2 hf1 (HF.out.offs hk1 HR.out) hl hl4 hp0 (by omega) (by omega)
      generalize hq : addS o (vecC d) = q at HG2 hA
      have e0 : wrap64 (o.f0 + (vecC d).f0) = q.f0 := by rw [← hq]; rfl
      have e1 : wrap64 (o.f1 + (vecC d).f1) = q.f1 := by rw [← hq]; rfl
      have e2 : wrap64 (o.f2 + (vecC d).f2) = q.f2 := by rw [← hq]; rfl
      have HPC := Aside0.mk (fun (w1 : World) => (impl_plusCube.calls o.f0 o.f1 o.f2 (vecC d).f0 (vecC d).f1 (vecC d).f2 q.f0 q.f1 q.f2 w1 (by unfold impl_plusCube.f; rw [e0, e1, e2])))
      clear e0 e1 e2 hq
      have HVC := Aside0.mk (vec_call d hd0 hd1)
      have x0 := (blk_cell HB.out 0).trans rfl
      have x1 := (blk_cell HB.out 1).trans rfl
      have x2 := (blk_cell HB.out 2).trans rfl
      have lB := blk_lt HB.out
      generalize vecC d = v at HPC HVC
      cases ha : aloneG ps part q.f0 q.f1 q.f2 0 l with
      | false =>
        rw [ha] at HG2 hA
        rw [Bool.false_and] at HG2
        have HG3 := Aside0.mk HG2
        have HA := Aside0.mk hA
        clear HG2 hA ha
        go_upto_region 4 with (fail)
        go_region_with (first
          | (go_at_call 103; refine (HVC.out _).mono ?_; rintro e w5 ⟨rfl, hb5⟩; have HB5 := Aside0.mk (below_step (w := wr) (by with_reducible repeat (first | exact Below.refl _ _ | apply below_drew1)) hb5); have BX5 := Aside0.mk (blk_below HB.out HB5.out); have y0 := (blk_cell BX5.out 0).trans rfl; have y1 := (blk_cell BX5.out 1).trans rfl; have y2 := (blk_cell BX5.out 2).trans rfl; clear hb5)
          | (go_at_call 102; refine (HPC.out _).mono ?_; rintro e w6 ⟨rfl, hb6⟩; have HB6 := Aside0.mk (below_step HB5.out hb6); have BX6 := Aside0.mk (blk_below BX5.out hb6); have z0 := (blk_cell BX6.out 0).trans rfl; have z1 := (blk_cell BX6.out 1).trans rfl; have z2 := (blk_cell BX6.out 2).trans rfl; have m0 := blk_frozen BX6.out 0; have m1 := blk_frozen BX6.out 1; have m2 := blk_frozen BX6.out 2; clear hb6)
          | fail)
        all_goals (
          have hfs := Aside0.mk ((((HFr.out.below HB6.out).set hbs (Nat.ne_of_lt lF) (Nat.ne_of_lt lM) 0 (.int .i64 q.f0)).set hbs (Nat.ne_of_lt lF) (Nat.ne_of_lt lM) 1 (.int .i64 q.f1)).set hbs (Nat.ne_of_lt lF) (Nat.ne_of_lt lM) 2 (.int .i64 q.f2))
          have hks := Aside0.mk (((kept_then HK.out (Kept.of_below HB6.out _)).setCell (p := ⟨w.heap.size, 0, none⟩) (.inr (Nat.le_refl _)) (.int .i64 q.f0)).setCell (p := ⟨w.heap.size, 1, none⟩) (.inr (Nat.le_refl _)) (.int .i64 q.f1) |>.setCell (p := ⟨w.heap.size, 2, none⟩) (.inr (Nat.le_refl _)) (.int .i64 q.f2))
          have hbx := Aside0.mk (blk_put (blk_put (blk_put BX6.out 0 (.int .i64 q.f0) rfl) 1 (.int .i64 q.f1) rfl) 2 (.int .i64 q.f2) rfl)
          have x3 := (blk_cell hbx.out 0).trans rfl
          have x4 := (blk_cell hbx.out 1).trans rfl
          have x5 := (blk_cell hbx.out 2).trans rfl
          go_wp2_with (go_at_call 99; refine (HA.out _ hfs.out hks.out).mono ?_; rintro e w7 ⟨rfl, hf7, hk7⟩)
          go_ret
          exact ⟨by rw [HG3.out]; rfl, hf7.more (by omega), kept_then hks.out hk7⟩)
      | true =>
        rw [ha] at HG2 hA
        rw [Bool.true_and] at HG2
        have HG3 := Aside0.mk HG2
        have HA := Aside0.mk hA
        clear HG2 hA ha
        go_upto_region 4 with (fail)
        go_region_with (first
          | (go_at_call 103; refine (HVC.out _).mono ?_; rintro e w5 ⟨rfl, hb5⟩; have HB5 := Aside0.mk (below_step (w := wr) (by with_reducible repeat (first | exact Below.refl _ _ | apply below_drew1)) hb5); have BX5 := Aside0.mk (blk_below HB.out HB5.out); have y0 := (blk_cell BX5.out 0).trans rfl; have y1 := (blk_cell BX5.out 1).trans rfl; have y2 := (blk_cell BX5.out 2).trans rfl; clear hb5)
          | (go_at_call 102; refine (HPC.out _).mono ?_; rintro e w6 ⟨rfl, hb6⟩; have HB6 := Aside0.mk (below_step HB5.out hb6); have BX6 := Aside0.mk (blk_below BX5.out hb6); have z0 := (blk_cell BX6.out 0).trans rfl; have z1 := (blk_cell BX6.out 1).trans rfl; have z2 := (blk_cell BX6.out 2).trans rfl; have m0 := blk_frozen BX6.out 0; have m1 := blk_frozen BX6.out 1; have m2 := blk_frozen BX6.out 2; clear hb6)
          | fail)
        all_goals (
          have hfs := Aside0.mk ((((HFr.out.below HB6.out).set hbs (Nat.ne_of_lt lF) (Nat.ne_of_lt lM) 0 (.int .i64 q.f0)).set hbs (Nat.ne_of_lt lF) (Nat.ne_of_lt lM) 1 (.int .i64 q.f1)).set hbs (Nat.ne_of_lt lF) (Nat.ne_of_lt lM) 2 (.int .i64 q.f2))
          have hks := Aside0.mk (((kept_then HK.out (Kept.of_below HB6.out _)).setCell (p := ⟨w.heap.size, 0, none⟩) (.inr (Nat.le_refl _)) (.int .i64 q.f0)).setCell (p := ⟨w.heap.size, 1, none⟩) (.inr (Nat.le_refl _)) (.int .i64 q.f1) |>.setCell (p := ⟨w.heap.size, 2, none⟩) (.inr (Nat.le_refl _)) (.int .i64 q.f2))
          have hbx := Aside0.mk (blk_put (blk_put (blk_put BX6.out 0 (.int .i64 q.f0) rfl) 1 (.int .i64 q.f1) rfl) 2 (.int .i64 q.f2) rfl)
          have x3 := (blk_cell hbx.out 0).trans rfl
          have x4 := (blk_cell hbx.out 1).trans rfl
          have x5 := (blk_cell hbx.out 2).trans rfl
          go_wp2_with (go_at_call 99; refine (HA.out _ hfs.out hks.out).mono ?_; rintro e w7 ⟨rfl, hf7, hk7⟩)
          go_roundw
          case rel => exact ⟨kk + 1, q, by omega, by go_num, HG3, ⟨hf7.more (by omega)⟩, ⟨hfs.out.blk hk7 hbx.out⟩, ⟨kept_then hks.out hk7⟩⟩
          case measure => simp [intOf]; omega)
    · have hkl : kk = 40 := by omega
      have HG2 := HG.out
      rw [hkl, Nat.sub_self, leavesG] at HG2
      have HR2 := Aside0.mk HG2
      clear HG2 hkl
      go_wp2
      go_ret
      exact ⟨by rw [HR2.out]; rfl, HFr.out.more (by omega), HK.out⟩

end Go.Proofs.Ytjgnlakgojookaa.Q
