/- Written by a program of this session (wip/tools/pp.py) out of the translation, with the kit's printer. -/
import Derived.Test.YtjgnlakgojookaaQ0
import Derived.Test.YtjgnlakgojookaaQGimplnewFrame
import Derived.Test.YtjgnlakgojookaaQGimplframetouch
import Derived.Test.YtjgnlakgojookaaQGimplframealone
import Derived.LoopTactic
import Derived.Deep.RegionHeld3
namespace Go.Proofs.Ytjgnlakgojookaa.Q
open Go.RowKit Go.Proofs.YtjgnlakgojookaaW.PrintWords Go.Proofs.YtjgnlakgojookaaW.PrintLast Go.Proofs.YtjgnlakgojookaaW.PrintMore
attribute [local go_sem] max2_int min2_int max_two min_two max_three min_three max_four min_four
set_option linter.unusedVariables false
set_option linter.unusedSimpArgs false

/-! ### impl_frame_clear: walked by hand -/
def clearG (ps : List (List S71)) (l : List S71) : Nat → List S71 → Bool
  | _, [] => true
  | i, q :: r => aloneG ps i q.f0 q.f1 q.f2 0 (l.take i) && clearG ps l (i + 1) r
set_option maxRecDepth 100000 in
set_option maxHeartbeats 1000000 in
theorem impl_frame_clear.calls (w0 w : World) (F M : Nat) (A : Option Addr) (c : Nat) (ps : List (List S71)) (n : Nat) (Al : Option Addr) (cl : Nat) (l : List S71) (hf : Frm w0 w F M A c ps n) (hr : Kd.C k71 w Al l.length l) (hcl : l.length ≤ cl) (hl : l.length ≤ ps.length) (hl4 : l.length ≤ 4) (hn : n < 800000000) :
    Calls Try.prog 65 #[.pointer (some ⟨F, 0, none⟩), .slice Al l.length cl] w fun e w' => e = .returned (.bool (clearG ps l 0 l)) ∧ Frm w0 w' F M A c ps (n + 16) ∧ Kept w w' (fun k => k = M) := by
  have HF := Aside0.mk hf
  have HR := Aside0.mk hr
  have hu71 := Try.underlying71
  have hu36 := Try.underlying36
  clear hf hr
  go_enter Try.func65, Try.ntmps65
  go_wp2
  go_loopw [9] (fun i wr => ∃ kk : Nat, kk ≤ l.length ∧ i = .int .i64 kk ∧ Aside0 (clearG ps l 0 l = clearG ps l kk (l.drop kk)) ∧ Aside0 (Frm w0 wr F M A c ps (n + 4 * kk)) ∧ Aside0 (Kd.C k71 wr Al l.length l) ∧ Aside0 (Kept w wr (fun k => k = M))) (fun i _ => l.length - (intOf i).toNat)
  case atStart => exact ⟨0, Nat.zero_le _, rfl, ⟨rfl⟩, HF, HR, ⟨Kept.refl _ _⟩⟩
  case round =>
    obtain ⟨kk, hk, rfl, HG, HFr, HC, HK⟩ := hrel
    by_cases hlt : kk < l.length
    · obtain ⟨ad, e, r0, r1, r2⟩ := at_T71 HC.out (kk : Int) (by omega) (by omega)
      subst e
      have hd : l.drop kk = rd_T71 l kk :: l.drop (kk + 1) := by
        rw [List.drop_eq_getElem_cons hlt]
        simp [rd_T71, List.getD_eq_getElem?_getD, List.getElem?_eq_getElem hlt]
      have HG2 := HG.out
      rw [hd, clearG] at HG2
      clear hd
      rw [Int.toNat_natCast] at r0 r1 r2
      generalize rd_T71 l kk = q at HG2 r0 r1 r2
      have hlen : (l.take kk).length = kk := by rw [List.length_take]; omega
      have hal := below_alloc (Below.refl wr.heap.size wr) (.cells #[.int .i64 q.f0, .int .i64 q.f1, .int .i64 q.f2] 71)
      have hT := fun (w1 : World) (hb : Below wr.heap.size wr w1) => impl_frame_alone.calls w0 w1 F M A c ps (n + 4 * kk) (some ad) cl (l.take kk) kk q.f0 q.f1 q.f2 (HFr.out.below hb) (Kd.C_take (Kd.C_below HC.out hb) hk) (by omega) (by omega) (by omega) (by omega) (by omega)
      rw [hlen] at hT
      have HAL := Aside0.mk hal
      have HNB := Aside0.mk (heap_alloc_new wr (.cells #[.int .i64 q.f0, .int .i64 q.f1, .int .i64 q.f2] 71 (0, 0)))
      clear hal hlen
      have hk0 : (0 : Int) ≤ (kk : Int) := Int.natCast_nonneg _
      have hk2 : (kk : Int) ≤ (cl : Int) := by omega
      cases ht : aloneG ps kk q.f0 q.f1 q.f2 0 (l.take kk) with
      | true =>
        rw [ht] at HG2 hT
        rw [Bool.true_and] at HG2
        have HG3 := Aside0.mk HG2
        have HT := Aside0.mk hT
        clear HG2 hT ht
        go_upto_region 4 with (fail)
        go_region_held3 (fun w' => w'.cell? ⟨wr.heap.size, 0, none⟩ = some (.int .i64 q.f0) ∧ w'.cell? ⟨wr.heap.size, 1, none⟩ = some (.int .i64 q.f1) ∧ w'.cell? ⟨wr.heap.size, 2, none⟩ = some (.int .i64 q.f2)) (first | go_keep | (go_split_ands; refine ⟨?_, ?_, ?_⟩ <;> exact (HFr.out.below (below_drew1 HAL.out)).cell ‹Kept _ _ _› (by assumption)))
          (first | (go_at_call 99; refine (HT.out _ (below_drew1 HAL.out)).mono ?_; rintro e w6 ⟨rfl, hf6, hk6⟩))
        rename_i hHeld
        clear hHeld
        go_wp2
        go_roundw
        case rel => exact ⟨kk + 1, by omega, by go_num, HG3, ⟨hf6.more (by omega)⟩, ⟨(HFr.out.below (below_drew1 HAL.out)).offs hk6 (Kd.C_below HC.out (below_drew1 HAL.out))⟩, ⟨kept_then HK.out (kept_then (Kept.of_below (below_drew1 HAL.out) _) hk6)⟩⟩
        case measure => simp [intOf]; omega
      | false =>
        rw [ht] at HG2 hT
        rw [Bool.false_and] at HG2
        have HG3 := Aside0.mk HG2
        have HT := Aside0.mk hT
        clear HG2 hT ht
        go_upto_region 4 with (fail)
        go_region_held3 (fun w' => w'.cell? ⟨wr.heap.size, 0, none⟩ = some (.int .i64 q.f0) ∧ w'.cell? ⟨wr.heap.size, 1, none⟩ = some (.int .i64 q.f1) ∧ w'.cell? ⟨wr.heap.size, 2, none⟩ = some (.int .i64 q.f2)) (first | go_keep | (go_split_ands; refine ⟨?_, ?_, ?_⟩ <;> exact (HFr.out.below (below_drew1 HAL.out)).cell ‹Kept _ _ _› (by assumption)))
          (first | (go_at_call 99; refine (HT.out _ (below_drew1 HAL.out)).mono ?_; rintro e w6 ⟨rfl, hf6, hk6⟩))
        rename_i hHeld
        clear hHeld
        go_wp2
        go_ret
        exact ⟨by rw [HG3.out]; rfl, hf6.more (by omega), kept_then HK.out (kept_then (Kept.of_below (below_drew1 HAL.out) _) hk6)⟩
    · have hkl : kk = l.length := by omega
      have HG2 := HG.out
      rw [hkl, List.drop_length] at HG2
      have HR2 := Aside0.mk HG2
      clear HG2 hkl
      go_wp2
      go_ret
      exact ⟨by rw [HR2.out]; rfl, HFr.out.more (by omega), HK.out⟩

end Go.Proofs.Ytjgnlakgojookaa.Q
