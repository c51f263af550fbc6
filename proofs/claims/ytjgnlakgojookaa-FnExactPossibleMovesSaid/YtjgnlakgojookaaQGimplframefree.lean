/- Written by a program of this session (wip/tools/pp.py) out of the translation, with the kit's printer. -/
import Derived.Test.YtjgnlakgojookaaQ0
import Derived.Test.YtjgnlakgojookaaQGimplnewFrame
import Derived.Test.YtjgnlakgojookaaQGimplframealone
import Derived.Test.YtjgnlakgojookaaQGimplframeleaves
import Derived.LoopTactic
namespace Go.Proofs.Ytjgnlakgojookaa.Q
open Go.RowKit Go.Proofs.YtjgnlakgojookaaW.PrintWords Go.Proofs.YtjgnlakgojookaaW.PrintLast Go.Proofs.YtjgnlakgojookaaW.PrintMore
attribute [local go_sem] max2_int min2_int max_two min_two max_three min_three max_four min_four
set_option linter.unusedVariables false
set_option linter.unusedSimpArgs false

/-! ### impl_frame_free: walked by hand -/
def freeG (ps : List (List S71)) (l : List S71) : Nat → Nat → List Int → List Int
  | 0, _, acc => acc
  | d + 1, i, acc => freeG ps l d (i + 1) (if leavesG ps l ((i : Int) / 6) ((i : Int) % 6) 40 (rd_T71 l ((i : Int) / 6)) = true then acc ++ [(i : Int)] else acc)
theorem Frm.grown {w0 W w1 : World} {F M : Nat} {A : Option Addr} {c : Nat} {ps : List (List S71)} {n : Nat} (h : Frm w0 W F M A c ps n) {row : Option Nat} (hg : W.grownBy w1 row) {B : Nat} (hrow : ∀ k, row = some k → B ≤ k) (hF : F < B) (hM : M < B) (hB : w0.heap.size ≤ B) : Frm w0 w1 F M A c ps n := by
  obtain ⟨L, hv, hl, hp⟩ := h.hM
  exact ⟨h.bel.grown hg h.bel.size (fun k hk => Nat.le_trans hB (hrow k hk)), (hg.block F (blk_lt h.hF) (fun e => by have := hrow F e.symm; omega)).trans h.hF, ⟨L, hv.kept hg (fun e => by have := hrow M e.symm; omega), hl, hp⟩, h.lo, h.C0, h.hc⟩
set_option maxRecDepth 100000 in
set_option maxHeartbeats 2000000 in
theorem impl_frame_free.calls (w0 w : World) (F M : Nat) (A : Option Addr) (c : Nat) (ps : List (List S71)) (n : Nat) (Al : Option Addr) (cl : Nat) (l : List S71) (hf : Frm w0 w F M A c ps n) (hr : Kd.C k71 w Al l.length l) (hl : l.length = ps.length) (hl4 : l.length ≤ 4) (hn : n < 600000000) :
    Calls Try.prog 71 #[.pointer (some ⟨F, 0, none⟩), .slice Al l.length cl] w fun e w' => ∃ v : Value, e = .returned v ∧ Kd.R (Kd.int .i64) 2 w' w.heap.size (fun _ => True) v (freeG ps l (6 * ps.length) 0 []) ∧ Frm w0 w' F M A c ps (n + 4000) ∧ Kept w w' (fun k => k = M) := by
  have HF := Aside0.mk hf
  have HR := Aside0.mk hr
  have hu110 := Try.underlying110
  have f0 := (blk_cell hf.hF 0).trans rfl
  have lF := blk_lt hf.hF
  have lM := hf.Mlt
  have hbs := hf.bel.size
  clear hf hr
  have hle : l.length ≤ ps.length := Nat.le_of_eq hl
  have hge : ps.length ≤ l.length := Nat.le_of_eq hl.symm
  clear hl
  obtain ⟨R, hR⟩ : ∃ R, R = freeG ps l (6 * ps.length) 0 [] := ⟨_, rfl⟩
  rw [← hR]
  have HR0 := Aside0.mk hR
  clear hR
  go_enter Try.func71, Try.ntmps71
  go_wp2_with (first
    | ((with_reducible refine gate_dst (N := 7) rfl ?_); refine Kd.R_lit (Kd.int .i64) w.heap.size 2 ?hg (N := 7) ?hd (xs := ([] : List Int)) (inner := []) (ok := fun _ => True) (okp := fun _ => True) ?hr ?hp (fun _ hk => hk) trivial (Below.refl w.heap.size w) (Nat.le_refl _) (by simp) ?_; (case hd => rfl); (case hg => rfl); (case hr => first | (go_simp; done) | (go_simp; rfl)); (case hp => exact (Reps.none _ _)); intro v7 w7 ho7 hb7 hg_ hnew_; clear hg_ hnew_; have HO7 := Aside0.mk ho7; have HB7 := Aside0.mk hb7; have f1 := pw_cell_below hb7 f0; clear ho7 hb7))
  go_loopw [5, 14] (fun v i wr => ∃ (kk : Nat) (acc : List Int), kk ≤ 6 * ps.length ∧ i = .int .i64 kk ∧ Aside0 (acc.length ≤ kk) ∧ Aside0 (R = freeG ps l (6 * ps.length - kk) kk acc) ∧ Aside0 (Kd.R (Kd.int .i64) 2 wr w.heap.size (fun _ => True) v acc) ∧ Aside0 (Frm w0 wr F M A c ps (n + 160 * kk)) ∧ Aside0 (Kept w wr (fun k => k = M))) (fun _ i _ => 6 * ps.length - (intOf i).toNat)
  case atStart => exact ⟨0, [], Nat.zero_le _, rfl, ⟨Nat.le_refl _⟩, HR0, HO7, ⟨HF.out.below HB7.out⟩, ⟨Kept.of_below HB7.out _⟩⟩
  case round =>
    clear f0 f1
    obtain ⟨kk, acc, hk, rfl, HL, HG, HO, HFr, HK⟩ := hrel
    by_cases hlt : kk < 6 * ps.length
    · have hs : 6 * ps.length - kk = (6 * ps.length - (kk + 1)) + 1 := by omega
      have HG2 := HG.out
      rw [hs, freeG] at HG2
      clear hs
      have hdm : (kk : Int) / 6 * 6 + (kk : Int) % 6 = kk := by omega
      have hA := impl_frame_leaves.calls w0 wr F M A c ps (n + 160 * kk) Al cl l ((kk : Int) / 6) ((kk : Int) % 6) HFr.out (HF.out.offs HK.out HR.out) (by omega) (by omega) (by omega) (by omega) (by omega) (by omega) (by omega)
      clear hdm
      obtain ⟨Ao, co, eo⟩ := Kd.R_slice HO.out
      subst eo
      cases ha : leavesG ps l ((kk : Int) / 6) ((kk : Int) % 6) 40 (rd_T71 l ((kk : Int) / 6)) with
      | false =>
        rw [ha] at HG2 hA
        rw [if_neg (by decide)] at HG2
        have HG3 := Aside0.mk HG2
        have HA := Aside0.mk hA
        clear HG2 hA ha
        go_wp2_with (go_at_call 76; refine HA.out.mono ?_; rintro e w2 ⟨rfl, hf2, hk2⟩)
        go_roundw
        case rel => exact ⟨kk + 1, acc, by omega, by go_num, ⟨by have := HL.out; omega⟩, HG3, ⟨Kd.R_mono (Kd.R_step (Kd.R_bound HO.out) (fun k ho hlt => hk2.2 k hlt (fun e => by have := ho.2.1; omega))) (fun _ _ => trivial)⟩, ⟨hf2.more (by omega)⟩, ⟨kept_then HK.out hk2⟩⟩
        case measure => simp [intOf]; omega
      | true =>
        rw [ha] at HG2 hA
        rw [if_pos rfl] at HG2
        have HG3 := Aside0.mk HG2
        have HA := Aside0.mk hA
        clear HG2 hA ha
        go_wp2_with (first
          | (go_at_call 76; refine HA.out.mono ?_; rintro e w2 ⟨rfl, hf2, hk2⟩; have HF2 := Aside0.mk hf2; have HK2 := Aside0.mk (kept_then HK.out hk2); have HO2 := Aside0.mk (Kd.R_mono (Kd.R_step (Kd.R_bound HO.out) (fun k ho hlt => hk2.2 k hlt (fun e => by have := ho.2.1; omega))) (ok' := fun _ => True) (fun _ _ => trivial)); clear hf2 hk2)
          | ((with_reducible refine gate_builtin (b := .append) (xs := #[.tmp 24, .tmp 26]) rfl ?_); at_builtin; refine Kd.R_append (Kd.int .i64) (w0 := w2) w.heap.size rfl (.tmp 24) (.tmp 26) 52 2 (.int .i64 0) 8 rfl Try.underlying52 info2 rfl (by decide) (by omega) (.slice Ao acc.length co) acc (kk : Int) [.int .i64 (kk : Int)] (fun _ => True) (fun _ => False) rfl rfl ?aP (fun _ hk => hk.elim) ?aF ?aO ?aB ?aS ?aL ?_; (case aP => exact rfl); (case aB => exact Below.refl _ _); (case aF => exact fun _ _ => trivial); (case aO => exact HO2.out); (case aS => exact HK2.out.1); (case aL => have := HL.out; omega); intro v216 w32 ho hb hg hat; have HO9 := Aside0.mk ho; have HG9 := Aside0.mk hg; clear ho hb hg hat))
        have hrow : ∀ k, (Value.slice Ao acc.length co).ownBlock = some k → w.heap.size ≤ k := Kd.R_base HO2.out
        go_roundw
        case rel => exact ⟨kk + 1, acc ++ [(kk : Int)], by omega, by go_num, ⟨by have := HL.out; simp; omega⟩, HG3, HO9, ⟨(HF2.out.grown HG9.out hrow lF lM hbs).more (by omega)⟩, ⟨Kept.of_grown HG9.out HK2.out (fun k hk => .inr (hrow k hk))⟩⟩
        case measure => simp [intOf]; omega
    · have hkl : kk = 6 * ps.length := by omega
      have HG2 := HG.out
      rw [hkl, Nat.sub_self, freeG] at HG2
      have HR2 := Aside0.mk HG2
      clear HG2
      obtain ⟨Ao, co, eo⟩ := Kd.R_slice HO.out
      subst eo
      clear hkl
      go_wp2
      go_ret
      exact ⟨_, rfl, by rw [HR2.out]; exact HO.out, HFr.out.more (by omega), HK.out⟩

end Go.Proofs.Ytjgnlakgojookaa.Q
