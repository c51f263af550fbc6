/- Written by a program of this session (wip/tools/pp.py) out of the translation, with the kit's printer. -/
import Derived.Test.YtjgnlakgojookaaQ0
import Derived.Test.YtjgnlakgojookaaQGimplnewFrame
import Derived.Test.YtjgnlakgojookaaQGimplframealone
import Derived.Test.YtjgnlakgojookaaQGimplframeleaves
import Derived.Test.YtjgnlakgojookaaQGimplframeafter
import Derived.LoopTactic
namespace Go.Proofs.Ytjgnlakgojookaa.Q
open Go.RowKit Go.Proofs.YtjgnlakgojookaaW.PrintWords Go.Proofs.YtjgnlakgojookaaW.PrintLast Go.Proofs.YtjgnlakgojookaaW.PrintMore
attribute [local go_sem] max2_int min2_int max_two min_two max_three min_three max_four min_four
set_option linter.unusedVariables false
set_option linter.unusedSimpArgs false

/-! ### impl_frame_follow: walked by hand -/
/-- The offsets behind the moves of a way; none where one of them is not possible. -/
def followG (ps : List (List S71)) : List Int → List S71 → Option (List S71)
  | [], now => some now
  | m :: r, now => if possG ps now m = true then followG ps r (aftG (m / 6).toNat (m % 6) 0 now) else none
theorem poss_res {ps : List (List S71)} {l : List S71} {m : Int} (h : possG ps l m = true) : resG ps.length l m = aftG (m / 6).toNat (m % 6) 0 l := by
  unfold possG at h
  unfold resG
  by_cases hb : badM ps.length m = true
  · rw [if_pos hb] at h; cases h
  · rw [if_neg hb]
theorem Frm.offsI {w0 w w' : World} {F M : Nat} {A : Option Addr} {c : Nat} {ps : List (List S71)} {n : Nat} (h : Frm w0 w F M A c ps n) (hk : Kept w w' (fun k => k = M)) {Al : Option Addr} {m : Nat} {l : List Int} (hC : Kd.C (Kd.int .i64) w Al m l) : Kd.C (Kd.int .i64) w' Al m l := by
  refine ⟨hC.1, hC.2.1, fun hn => ?_⟩
  obtain ⟨ad, e, hc⟩ := hC.2.2 hn
  refine ⟨ad, e, fun j p hj => ?_⟩
  obtain ⟨cs, hl, hR, hcell⟩ := hc j p hj
  exact ⟨cs, hl, hR, fun i u hu => h.cell hk (hcell i u hu)⟩
set_option maxRecDepth 100000 in
set_option maxHeartbeats 2000000 in
theorem impl_frame_follow.calls (w0 w : World) (F M : Nat) (A : Option Addr) (c : Nat) (ps : List (List S71)) (n : Nat) (Al : Option Addr) (cl : Nat) (l : List Int) (hf : Frm w0 w F M A c ps n) (hr : Kd.C (Kd.int .i64) w Al l.length l) (hl : l.length ≤ 1048576) (hm : ∀ m ∈ l, m ≤ 9223372036854775807) (hp1 : 1 ≤ ps.length) (hp4 : ps.length ≤ 4) (hn : n < 100000000) :
    Calls Try.prog 82 #[.pointer (some ⟨F, 0, none⟩), .slice Al l.length cl] w fun e w' => ∃ v : Value, e = .returned (.tuple #[v, .bool (followG ps l (List.replicate ps.length z71)).isSome]) ∧ Kd.R k71 71 w' w.heap.size (fun _ => True) v ((followG ps l (List.replicate ps.length z71)).getD []) ∧ Frm w0 w' F M A c ps (n + 20000000) ∧ Kept w w' (fun k => k = M) := by
  have HF := Aside0.mk hf
  have HR := Aside0.mk hr
  have HM := Aside0.mk hm
  have hu110 := Try.underlying110
  have f0 := (blk_cell hf.hF 0).trans rfl
  have lM := Frm.Mlt hf
  clear hf hr hm
  obtain ⟨R, hR⟩ : ∃ R, R = followG ps l (List.replicate ps.length z71) := ⟨_, rfl⟩
  rw [← hR]
  have HR0 := Aside0.mk hR
  clear hR
  go_enter Try.func82, Try.ntmps82
  go_wp2_with (first
    | ((with_reducible refine gate_dst (N := 16) rfl ?_); refine Kd.R_make k71 _ 71 rfl (N := 16) rfl 36 _ _ rfl (ps.length : Int) rfl rfl Try.underlying36 (.agg #[(.int .i64 0), (.int .i64 0), (.int .i64 0)]) 24 info71 rfl (by decide) (by omega) z71 (ok := fun _ => True) (okp := fun _ => True) (k71_mkM _ _ _ z71) (fun _ hk => hk) trivial (by omega) (by omega) (Below.refl _ _) (Nat.le_refl _) ?_; intro v7 w7 ho7 hb7 hg_ hnew_; clear hg_ hnew_; rw [Int.toNat_natCast] at ho7; have HO7 := Aside0.mk ho7; have HB7 := Aside0.mk hb7; clear ho7 hb7))
  go_loopw [6, 19] (fun v i wr => ∃ (kk : Nat) (now : List S71), kk ≤ l.length ∧ i = .int .i64 kk ∧ Aside0 (now.length = ps.length) ∧ Aside0 (R = followG ps (l.drop kk) now) ∧ Aside0 (Kd.R k71 71 wr w.heap.size (fun _ => True) v now) ∧ Aside0 (Frm w0 wr F M A c ps (n + 16 * kk)) ∧ Aside0 (Kept w wr (fun k => k = M))) (fun _ i _ => l.length - (intOf i).toNat)
  case atStart => exact ⟨0, _, Nat.zero_le _, rfl, ⟨by simp⟩, HR0, HO7, ⟨(Frm.below HF.out HB7.out).more (by omega)⟩, ⟨Kept.of_below HB7.out _⟩⟩
  case round =>
    clear f0
    obtain ⟨kk, now, hk, rfl, HL, HG, HO, HFr, HK⟩ := hrel
    obtain ⟨Ao, co, eo⟩ := Kd.R_slice HO.out
    subst eo
    by_cases hlt : kk < l.length
    · obtain ⟨ad, e, x0⟩ := Kd.at_int (Frm.offsI HF.out HK.out HR.out) (kk : Int) (by omega) (by omega)
      subst e
      have hd : l.drop kk = rd l kk :: l.drop (kk + 1) := by
        rw [List.drop_eq_getElem_cons hlt]
        simp [rd, List.getD_eq_getElem?_getD, List.getElem?_eq_getElem hlt]
      have hmm : rd l kk ≤ 9223372036854775807 := HM.out _ (by
        have : rd l kk = l[kk] := by simp [rd, List.getD_eq_getElem?_getD, List.getElem?_eq_getElem hlt]
        rw [this]
        exact List.getElem_mem hlt)
      have HG2 := HG.out
      rw [hd, followG] at HG2
      clear hd
      rw [Int.toNat_natCast] at x0
      generalize rd l kk = m at HG2 x0 hmm
      have hA := impl_frame_after.calls w0 wr F M A c ps (n + 16 * kk) Ao co now m HFr.out (Kd.R_reads' HO.out).2.2 (Kd.R_reads' HO.out).2.1 HL.out hp1 hp4 hmm (by omega)
      cases ha : possG ps now m with
      | false =>
        rw [ha] at HG2 hA
        rw [if_neg (by decide)] at HG2
        have HG3 := Aside0.mk HG2
        have HA := Aside0.mk hA
        clear HG2 hA ha
        go_wp2_with (go_at_call 81; refine HA.out.mono ?_; rintro e w2 ⟨v2, rfl, ho2, hf2, hk2⟩)
        go_ret2
        exact ⟨_, by rw [HG3.out]; rfl, by rw [HG3.out]; exact Kd.R_nil _ _ _ _ _, hf2.more (by omega), kept_then HK.out hk2⟩
      | true =>
        rw [poss_res ha] at hA
        rw [ha] at HG2 hA
        rw [if_pos rfl] at HG2
        have HG3 := Aside0.mk HG2
        have HA := Aside0.mk hA
        clear HG2 hA ha
        go_wp2_with (go_at_call 81; refine HA.out.mono ?_; rintro e w2 ⟨v2, rfl, ho2, hf2, hk2⟩)
        go_roundw
        case rel => exact ⟨kk + 1, _, by omega, by go_num, ⟨by rw [aftG_len]; exact HL.out⟩, HG3, ⟨Kd.R_lower ho2 HK.out.1⟩, ⟨hf2.more (by omega)⟩, ⟨kept_then HK.out hk2⟩⟩
        case measure => simp [intOf]; omega
    · have hkl : kk = l.length := by omega
      have HG2 := HG.out
      rw [hkl, List.drop_length, followG] at HG2
      have HR2 := Aside0.mk HG2
      clear HG2 hkl
      go_wp2
      go_ret2
      exact ⟨_, by rw [HR2.out]; rfl, by rw [HR2.out]; exact HO.out, HFr.out.more (by omega), HK.out⟩

end Go.Proofs.Ytjgnlakgojookaa.Q
