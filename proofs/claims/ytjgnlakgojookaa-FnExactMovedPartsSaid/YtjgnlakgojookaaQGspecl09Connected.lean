/- Written by a program of this session (wip/tools/pp.py) out of the translation, with the kit's printer. -/
import Derived.Test.YtjgnlakgojookaaQ0
import Derived.Test.YtjgnlakgojookaaQ5
import Derived.Test.YtjgnlakgojookaaQGimplframetouch
import Derived.LoopTactic
import Derived.Deep.RegionWith
namespace Go.Proofs.Ytjgnlakgojookaa.Q
open Go.RowKit Go.Proofs.YtjgnlakgojookaaW.PrintWords Go.Proofs.YtjgnlakgojookaaW.PrintLast Go.Proofs.YtjgnlakgojookaaW.PrintMore
attribute [local go_sem] max2_int min2_int max_two min_two max_three min_three max_four min_four
set_option linter.unusedVariables false
set_option linter.unusedSimpArgs false

/-! ### spec_l09Connected: walked by hand -/
def stepL : List S71 := [⟨0, 0, -1⟩, ⟨0, -1, 0⟩, ⟨-1, 0, 0⟩, ⟨1, 0, 0⟩, ⟨0, 1, 0⟩, ⟨0, 0, 1⟩]
def addS (p q : S71) : S71 := ⟨wrap64 (p.f0 + q.f0), wrap64 (p.f1 + q.f1), wrap64 (p.f2 + q.f2)⟩
mutual
def spec_l09Connected.l0 : Nat → List S71 → List S71 → Int → Option Bool
  | 0, _, _, _ => none
  | k + 1, x0, x3, x4 => if x4 < (x3.length : Int) then (if 0 ≤ x4 then spec_l09Connected.l1 k x0 x3 x4 0 else none) else some ((x3.length : Int) == (x0.length : Int))
def spec_l09Connected.l1 : Nat → List S71 → List S71 → Int → Int → Option Bool
  | 0, _, _, _, _ => none
  | k + 1, x0, x3, x4, x5 => if x5 < 6 then (if 0 ≤ x5 ∧ x4 < (x3.length : Int) ∧ 0 ≤ x4 then (spec_l09Index.f k x0 (addS (rd_T71 x3 x4) (rd_T71 stepL x5)).f0 (addS (rd_T71 x3 x4) (rd_T71 stepL x5)).f1 (addS (rd_T71 x3 x4) (rd_T71 stepL x5)).f2).bind fun t =>
      if 0 ≤ t then (spec_l09Index.f k x3 (addS (rd_T71 x3 x4) (rd_T71 stepL x5)).f0 (addS (rd_T71 x3 x4) (rd_T71 stepL x5)).f1 (addS (rd_T71 x3 x4) (rd_T71 stepL x5)).f2).bind fun u =>
        if u < 0 then (if x3.length < 1000000 then spec_l09Connected.l1 k x0 (x3 ++ [addS (rd_T71 x3 x4) (rd_T71 stepL x5)]) x4 (wrap64 (x5 + 1)) else none) else spec_l09Connected.l1 k x0 x3 x4 (wrap64 (x5 + 1))
      else spec_l09Connected.l1 k x0 x3 x4 (wrap64 (x5 + 1)) else none) else spec_l09Connected.l0 k x0 x3 (wrap64 (x4 + 1))
end
def spec_l09Connected.f (k : Nat) (l0 : List S71) : Option Bool := if 0 < (l0.length : Int) then spec_l09Connected.l0 k l0 [rd_T71 l0 0] 0 else none
theorem spec_l09Connected.mono_l : ∀ k, (∀ y0 y1 y2, LeO (spec_l09Connected.l0 k y0 y1 y2) (spec_l09Connected.l0 (k + 1) y0 y1 y2)) ∧ (∀ y0 y1 y2 y3, LeO (spec_l09Connected.l1 k y0 y1 y2 y3) (spec_l09Connected.l1 (k + 1) y0 y1 y2 y3))
  | 0 => ⟨fun _ _ _ r h => by simp [spec_l09Connected.l0] at h, fun _ _ _ _ r h => by simp [spec_l09Connected.l1] at h⟩
  | k + 1 => by
    obtain ⟨ih0, ih1⟩ := spec_l09Connected.mono_l k
    refine ⟨?_, ?_⟩
    · intro y0 y1 y2
      unfold spec_l09Connected.l0
      exact LeO.ite (LeO.ite (ih1 _ _ _ _) (LeO.refl _)) (LeO.refl _)
    · intro y0 y1 y2 y3
      unfold spec_l09Connected.l1
      exact LeO.ite (LeO.ite (LeO.bind (spec_l09Index.mono _ _ _ _ _) (fun _ => LeO.ite (LeO.bind (spec_l09Index.mono _ _ _ _ _) (fun _ => LeO.ite (LeO.ite (ih1 _ _ _ _) (LeO.refl _)) (ih1 _ _ _ _))) (ih1 _ _ _ _))) (LeO.refl _)) (ih0 _ _ _)
theorem spec_l09Connected.mono : ∀ a0 k, LeO (spec_l09Connected.f k a0) (spec_l09Connected.f (k + 1) a0) := by
  intro a0 k
  unfold spec_l09Connected.f
  exact LeO.ite ((spec_l09Connected.mono_l k).1 _ _ _) (LeO.refl _)
set_option maxRecDepth 100000 in
set_option maxHeartbeats 8000000 in
theorem spec_l09Connected.calls (k : Nat) (A0 : Option Addr) (c0 : Nat) (l0 : List S71) (r : Bool) (w : World) (hr0 : Kd.C k71 w A0 l0.length l0) (hc0 : l0.length ≤ c0) (h : spec_l09Connected.f k l0 = some r) :
    Calls Try.prog 56 #[.slice A0 l0.length c0] w fun e w' => e = .returned (.bool r) ∧ Below w.heap.size w w' := by
  have hu71 := Try.underlying71
  have HR0 := Aside0.mk hr0
  have HC0 := Aside0.mk hc0
  have hlen := hr0.2.1
  clear hr0 hc0
  unfold spec_l09Connected.f at h
  by_cases c2 : 0 < (l0.length : Int)
  case neg => rw [if_neg c2] at h; exact absurd h (by simp)
  rw [if_pos c2] at h
  have H' := Aside0.mk h
  clear h
  obtain ⟨ad, e, q0, q1, q2⟩ := at_T71 HR0.out 0 (by omega) c2
  subst e
  rw [show (ad.add (Int.toNat 0 * 3)) = ad by unfold Addr.add; simp] at q0 q1 q2
  go_enter Try.func56, Try.ntmps56
  go_wp2_with (first | ((with_reducible refine gate_dst (N := 10) rfl ?_); refine Kd.R_lit k71 w.heap.size 71 ?hg (N := 10) ?hd (xs := ([rd_T71 l0 0] : List S71)) (inner := [.int .i64 ((rd_T71 l0 0).f0), .int .i64 ((rd_T71 l0 0).f1), .int .i64 ((rd_T71 l0 0).f2)]) (ok := fun _ => True) (okp := fun _ => True) ?hr ?hp (fun _ hk => hk) trivial (Below.refl _ _) (Nat.le_refl _) (by simp) ?_; (case hd => rfl); (case hg => rfl); (case hr => first | (go_simp; done) | (go_simp; rfl)); (case hp => exact (Reps.c3 (show Kd.M k71 _ _ _ (rd_T71 l0 0) [.int .i64 ((rd_T71 l0 0).f0), .int .i64 ((rd_T71 l0 0).f1), .int .i64 ((rd_T71 l0 0).f2)] from (k71_mkM _ _ _ (rd_T71 l0 0))) (Reps.none _ _))); intro v205 w3 ho4 hb hg_ hnew_; clear hg_ hnew_; have HO := Aside0.mk ho4; have HB := Aside0.mk hb; clear ho4 hb))
  go_loopg [3, 4] k (fun kq v3 v4 w' => ∃ (x3 : List S71) (x4 : Int), v4 = .int .i64 x4 ∧ Aside0 (spec_l09Connected.l0 kq l0 x3 x4 = some r) ∧ Aside0 (kq ≤ k) ∧ Aside0 (Kd.R k71 71 w' w.heap.size (fun _ => True) v3 x3) ∧ Aside0 (Below w.heap.size w w'))
  case atStart => exact ⟨_, 0, rfl, H', ⟨Nat.le_refl _⟩, HO, HB⟩
  case round =>
    clear H' HO HB q0 q1 q2
    obtain ⟨x3, x4, rfl, HA, HK1, HO, HB⟩ := hrel
    cases gk with
    | zero => exact absurd HA.out (by simp [spec_l09Connected.l0])
    | succ k1 =>
      have H := HA.out
      clear HA
      simp only [spec_l09Connected.l0] at H
      obtain ⟨Ao, co, eo⟩ := Kd.R_slice HO.out
      subst eo
      have hmx := (Kd.R_reads' HO.out).2.2.2.1
      by_cases c5 : x4 < (x3.length : Int)
      · rw [if_pos c5] at H
        by_cases c6 : 0 ≤ x4
        case neg => rw [if_neg c6] at H; exact absurd H (by simp)
        rw [if_pos c6] at H
        have H' := Aside0.mk H
        clear H
        go_wp2
        go_loopg [3, 5] k1 (fun kq v3 v5 w' => ∃ (x3 : List S71) (x5 : Int), v5 = .int .i64 x5 ∧ Aside0 (spec_l09Connected.l1 kq l0 x3 x4 x5 = some r) ∧ Aside0 (kq ≤ k1) ∧ Aside0 (Kd.R k71 71 w' w.heap.size (fun _ => True) v3 x3) ∧ Aside0 (Below w.heap.size w w'))
        case atStart => exact ⟨x3, 0, rfl, H', ⟨Nat.le_refl _⟩, HO, HB⟩
        case round =>
          clear H' HO HB c5 hmx
          obtain ⟨x3, x5, rfl, HA, HK2, HO, HB⟩ := hrel
          cases gk with
          | zero => exact absurd HA.out (by simp [spec_l09Connected.l1])
          | succ k2 =>
            have H := HA.out
            clear HA
            simp only [spec_l09Connected.l1] at H
            obtain ⟨Ao, co, eo⟩ := Kd.R_slice HO.out
            subst eo
            have hmx := (Kd.R_reads' HO.out).2.2.2.1
            by_cases c7 : x5 < 6
            · rw [if_pos c7] at H
              by_cases c8 : 0 ≤ x5 ∧ x4 < (x3.length : Int) ∧ 0 ≤ x4
              case neg => rw [if_neg c8] at H; exact absurd H (by simp)
              rw [if_pos c8] at H
              obtain ⟨c8, c9, _⟩ := c8
              obtain ⟨t, ht, H⟩ := Option.bind_eq_some_iff.mp H
              obtain ⟨ad3, e3, y0, y1, y2⟩ := at_T71 (Kd.R_reads' HO.out).2.2 x4 c6 c9
              subst e3
              have HT := Aside0.mk ht
              have H' := Aside0.mk H
              clear ht H
              go_upto_region 8 with (fail)
              go_cut [6] (fun v6 wc => ∃ g : Nat, v6 = .pointer (some ⟨g, 0, none⟩) ∧ Aside0 (wc.heap[g]? = some (.cells #[.int .i64 (addS (rd_T71 x3 x4) (rd_T71 stepL x5)).f0, .int .i64 (addS (rd_T71 x3 x4) (rd_T71 stepL x5)).f1, .int .i64 (addS (rd_T71 x3 x4) (rd_T71 stepL x5)).f2] 71 (0, 0))) ∧ Aside0 (Kd.R k71 71 wc w.heap.size (fun k => True ∧ k ≠ g) (.slice (some ad3) x3.length co) x3) ∧ Aside0 (Below w.heap.size w wc) ∧ Aside0 (w.heap.size ≤ g))
              case first =>
                have yl := World.block_lt_of_cell? _ _ y0
                go_region_with (first
                  | (go_at_call 92; refine (spec_l09Steps.calls _ _ rfl).mono ?_; rintro e w5 ⟨v5, rfl, ho5, hb5⟩; obtain ⟨A5, c5, e5⟩ := Kd.R_slice ho5; subst e5; obtain ⟨ad5, e5, z0, z1, z2⟩ := at_T71 (Kd.R_reads' ho5).2.2 x5 c8 c7; subst e5; have HB5 := Aside0.mk (below_step (w := wr) (by with_reducible repeat (first | exact Below.refl _ _ | apply below_alloc | apply below_drew1 | apply pw_below_drewN)) hb5); have HO5 := Aside0.mk ho5; (try (have G5 : Aside0 (w5.heap[wr.heap.size]? = some (.cells #[.int .i64 0, .int .i64 0, .int .i64 0] 71 (0, 0))) := ⟨blk_below (heap_alloc_new wr.drew (.cells #[.int .i64 0, .int .i64 0, .int .i64 0] 71 (0, 0))) hb5⟩)); clear ho5 hb5; have y3 := pw_cell_below HB5.out y0; have y4 := pw_cell_below HB5.out y1; have y5 := pw_cell_below HB5.out y2; have zl := World.block_lt_of_cell? _ _ z0; have yl5 : (ad3.add (x4.toNat * 3)).block < w5.heap.size := Nat.lt_of_lt_of_le yl HB5.out.size)
                  | (go_at_call 91; (with_reducible refine (spec_l09Add.calls _ _ _ _ _ _ _ _ _ _ rfl).mono ?_); rintro e w6 ⟨rfl, hb6⟩; have HW6 := Aside0.mk (below_step (w := wr) (by with_reducible repeat (first | exact HB5.out | apply below_alloc | apply below_drew1 | apply pw_below_drewN)) hb6); have HV6 := Aside0.mk (below_step (w := w5) (by with_reducible repeat (first | exact Below.refl _ _ | apply below_alloc | apply below_drew1 | apply pw_below_drewN)) hb6); (try (have G6 := Aside0.mk (blk_below (by with_reducible exact G5.out) hb6); have g0 := (blk_cell G6.out 0).trans rfl; have m0 := blk_frozen G6.out 0; have g1 := (blk_cell G6.out 1).trans rfl; have m1 := blk_frozen G6.out 1; have g2 := (blk_cell G6.out 2).trans rfl; have m2 := blk_frozen G6.out 2)); (try (have G6 := Aside0.mk (blk_below (heap_alloc_new w5 (.cells #[.int .i64 0, .int .i64 0, .int .i64 0] 71 (0, 0))) hb6); have g0 := (blk_cell G6.out 0).trans rfl; have m0 := blk_frozen G6.out 0; have g1 := (blk_cell G6.out 1).trans rfl; have m1 := blk_frozen G6.out 1; have g2 := (blk_cell G6.out 2).trans rfl; have m2 := blk_frozen G6.out 2)); clear hb6)
                  | fail)
                all_goals (
                  go_wp2
                  go_meet
                  case rel =>
                   have hws := HB.out.size
                   have hsz5 := HB5.out.size
                   first
                    | ((with_reducible refine ⟨wr.heap.size, rfl, ?_, ?_, ?_, ?_⟩)
                       · exact ⟨blk_put (blk_put (blk_put G6.out 0 _ rfl) 1 _ rfl) 2 _ rfl⟩
                       · exact ⟨Kd.R_far (p := ⟨wr.heap.size, 2, none⟩) (Kd.R_far (p := ⟨wr.heap.size, 1, none⟩) (Kd.R_far (p := ⟨wr.heap.size, 0, none⟩) (Kd.R_below (Kd.R_elderB HO.out wr.heap.size (Nat.le_refl _)) HW6.out) (fun _ hk => hk.2) _) (fun _ hk => hk.2) _) (fun _ hk => hk.2) _⟩
                       · exact ⟨below_set (below_set (below_set (below_step HB.out HW6.out) hws) hws) hws⟩
                       · exact ⟨hws⟩)
                    | ((with_reducible refine ⟨w5.heap.size, rfl, ?_, ?_, ?_, ?_⟩)
                       · exact ⟨blk_put (blk_put (blk_put G6.out 0 _ rfl) 1 _ rfl) 2 _ rfl⟩
                       · exact ⟨Kd.R_far (p := ⟨w5.heap.size, 2, none⟩) (Kd.R_far (p := ⟨w5.heap.size, 1, none⟩) (Kd.R_far (p := ⟨w5.heap.size, 0, none⟩) (Kd.R_below (Kd.R_elderB (Kd.R_below HO.out HB5.out) w5.heap.size (Nat.le_refl _)) HV6.out) (fun _ hk => hk.2) _) (fun _ hk => hk.2) _) (fun _ hk => hk.2) _⟩
                       · exact ⟨below_set (below_set (below_set (below_step HB.out HW6.out) (Nat.le_trans hws hsz5)) (Nat.le_trans hws hsz5)) (Nat.le_trans hws hsz5)⟩
                       · exact ⟨Nat.le_trans hws hsz5⟩)
                    | ((with_reducible refine ⟨w6.heap.size, rfl, ?_, ?_, ?_, ?_⟩)
                       · exact ⟨heap_alloc_new w6 _⟩
                       · exact ⟨Kd.R_alloc (Kd.R_elderB (Kd.R_below HO.out HW6.out) w6.heap.size (Nat.le_refl _)) _⟩
                       · exact ⟨below_alloc (below_step HB.out HW6.out) _⟩
                       · exact ⟨(below_step HB.out HW6.out).size⟩))
              case rest =>
                obtain ⟨g, rfl, BK, HO3, HB3, HG⟩ := hcut
                clear y0 y1 y2
                have H := H'.out
                rw [show wrap64 (x5 + 1) = x5 + 1 by unfold wrap64; omega] at H
                clear H' HO HB
                obtain ⟨cc, hcc⟩ : ∃ cc, cc = addS (rd_T71 x3 x4) (rd_T71 stepL x5) := ⟨_, rfl⟩
                rw [← hcc] at HT H BK
                clear hcc
                have i0 := (blk_cell BK.out 0).trans rfl
                have i1 := (blk_cell BK.out 1).trans rfl
                have i2 := (blk_cell BK.out 2).trans rfl
                by_cases c10 : 0 ≤ t
                · rw [if_pos c10] at H
                  obtain ⟨u, hu, H⟩ := Option.bind_eq_some_iff.mp H
                  have HU := Aside0.mk hu
                  clear hu
                  by_cases c11 : u < 0
                  · rw [if_pos c11] at H
                    by_cases c12 : x3.length < 1000000
                    case neg => rw [if_neg c12] at H; exact absurd H (by simp)
                    rw [if_pos c12] at H
                    have H' := Aside0.mk H
                    clear H
                    go_wp2_with (first
                      | (go_at_call 93; (with_reducible refine (spec_l09Index.calls k2 _ _ l0 _ _ _ _ _ (Kd.C_below HR0.out HB3.out) HC0.out HT.out).mono ?_); rintro e w7 ⟨rfl, hb7⟩; have j0 := pw_cell_below hb7 i0; have j1 := pw_cell_below hb7 i1; have j2 := pw_cell_below hb7 i2)
                      | (go_at_call 93; (with_reducible refine (spec_l09Index.calls k2 _ _ x3 _ _ _ _ _ (Kd.C_below (Kd.R_reads' HO3.out).2.2 hb7) (Kd.R_reads' HO3.out).2.1 HU.out).mono ?_); rintro e w8 ⟨rfl, hb8⟩; have k0 := pw_cell_below hb8 j0; have k1 := pw_cell_below hb8 j1; have k2' := pw_cell_below hb8 j2)
                      | ((with_reducible refine gate_builtin (b := .append) (xs := #[.tmp 40, .tmp 42]) rfl ?_); at_builtin; refine Kd.R_append k71 (w0 := w) w.heap.size rfl (.tmp 40) (.tmp 42) 36 71 (.agg #[(.int .i64 0), (.int .i64 0), (.int .i64 0)]) 24 rfl Try.underlying36 info71 rfl (by decide) (by omega) (.slice (some ad3) x3.length co) x3 cc [.int .i64 cc.f0, .int .i64 cc.f1, .int .i64 cc.f2] (fun k_ => True ∧ k_ ≠ g) (fun _ => False) rfl rfl ?aP (fun _ hk => hk.elim) ?aF ?aO ?aB ?aS ?aL ?_; (case aP => exact k71_mkM _ _ _ cc); (case aB => exact below_step (below_step HB3.out hb7) hb8); (case aF => exact (fun k_ hk => ⟨trivial, Kd.freshB (blk_below (blk_below BK.out hb7) hb8) k_ hk⟩)); (case aO => exact Kd.R_below (Kd.R_below HO3.out hb7) hb8); (case aS => exact (below_step (below_step HB3.out hb7) hb8).size); (case aL => omega); intro v216 w32 ho hb hg hat; have HO9 := Aside0.mk ho; have HB9 := Aside0.mk hb; clear ho hb hg hat))
                    go_roundg k2
                    case measure => have := HK1.out; have := HK2.out; omega
                    case rel => exact ⟨_, x5 + 1, rfl, H', ⟨by have := HK1.out; have := HK2.out; omega⟩, ⟨Kd.R_mono HO9.out (fun _ hk => hk.1)⟩, HB9⟩
                  · rw [if_neg c11] at H
                    have H' := Aside0.mk H
                    clear H
                    go_wp2_with (first
                      | (go_at_call 93; (with_reducible refine (spec_l09Index.calls k2 _ _ l0 _ _ _ _ _ (Kd.C_below HR0.out HB3.out) HC0.out HT.out).mono ?_); rintro e w7 ⟨rfl, hb7⟩; have j0 := pw_cell_below hb7 i0; have j1 := pw_cell_below hb7 i1; have j2 := pw_cell_below hb7 i2)
                      | (go_at_call 93; (with_reducible refine (spec_l09Index.calls k2 _ _ x3 _ _ _ _ _ (Kd.C_below (Kd.R_reads' HO3.out).2.2 hb7) (Kd.R_reads' HO3.out).2.1 HU.out).mono ?_); rintro e w8 ⟨rfl, hb8⟩; have k0 := pw_cell_below hb8 j0; have k1 := pw_cell_below hb8 j1; have k2' := pw_cell_below hb8 j2))
                    go_roundg k2
                    case measure => have := HK1.out; have := HK2.out; omega
                    case rel => exact ⟨x3, x5 + 1, rfl, H', ⟨by have := HK1.out; have := HK2.out; omega⟩, ⟨Kd.R_mono (Kd.R_below (Kd.R_below HO3.out hb7) hb8) (fun _ hk => hk.1)⟩, ⟨below_step (below_step HB3.out hb7) hb8⟩⟩
                · rw [if_neg c10] at H
                  have H' := Aside0.mk H
                  clear H
                  go_wp2_with (first
                    | (go_at_call 93; (with_reducible refine (spec_l09Index.calls k2 _ _ l0 _ _ _ _ _ (Kd.C_below HR0.out HB3.out) HC0.out HT.out).mono ?_); rintro e w7 ⟨rfl, hb7⟩; have j0 := pw_cell_below hb7 i0; have j1 := pw_cell_below hb7 i1; have j2 := pw_cell_below hb7 i2))
                  go_roundg k2
                  case measure => have := HK1.out; have := HK2.out; omega
                  case rel => exact ⟨x3, x5 + 1, rfl, H', ⟨by have := HK1.out; have := HK2.out; omega⟩, ⟨Kd.R_mono (Kd.R_below HO3.out hb7) (fun _ hk => hk.1)⟩, ⟨below_step HB3.out hb7⟩⟩
            · rw [if_neg c7] at H
              have H' := Aside0.mk H
              clear H
              go_wp2
              go_roundg k2
              case measure => have := HK1.out; have := HK2.out; omega
              case rel => exact ⟨x3, wrap64 (x4 + 1), (by first | rfl | (simp; done) | (simp [*]; done)), H', ⟨by have := HK1.out; have := HK2.out; omega⟩, HO, HB⟩
      · rw [if_neg c5] at H
        obtain rfl := Option.some.inj H
        go_wp2
        go_ret
        exact ⟨by first | rfl | simp, HB.out⟩

end Go.Proofs.Ytjgnlakgojookaa.Q
