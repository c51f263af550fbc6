/- Written by a program of this session (wip/tools/pp.py) out of the translation, with the kit's printer. -/
import Derived.Test.YtjgnlakgojookaaQ0
import Derived.Test.YtjgnlakgojookaaQGimplnewFrame
import Derived.Test.YtjgnlakgojookaaQGimplframetouch
import Derived.Test.YtjgnlakgojookaaQ15
import Derived.LoopTactic
namespace Go.Proofs.Ytjgnlakgojookaa.Q
open Go.RowKit Go.Proofs.YtjgnlakgojookaaW.PrintWords Go.Proofs.YtjgnlakgojookaaW.PrintLast Go.Proofs.YtjgnlakgojookaaW.PrintMore
attribute [local go_sem] max2_int min2_int max_two min_two max_three min_three max_four min_four
set_option linter.unusedVariables false
set_option linter.unusedSimpArgs false

/-! ### impl_frame_alone: walked by hand -/
def aloneG (ps : List (List S71)) (part x y z : Int) : Nat → List S71 → Bool
  | _, [] => true
  | i, q :: r => (((i : Int) == part) || !touchC ps i part (wrap64 (x - q.f0)) (wrap64 (y - q.f1)) (wrap64 (z - q.f2))) && aloneG ps part x y z (i + 1) r
theorem rng_wrap (x : Int) : rng (wrap64 x) = true := by
  unfold rng wrap64
  simp
  omega
theorem Frm.map {w0 w : World} {F M : Nat} {A : Option Addr} {c : Nat} {ps : List (List S71)} {n : Nat} (h : Frm w0 w F M A c ps n) : ∃ es cl, w.heap[M]? = some (.map es cl) := by
  obtain ⟨L, hv, _⟩ := h.hM
  obtain ⟨es, cl, hm, _⟩ := hv.1
  exact ⟨es, cl, hm⟩
theorem Frm.cell {w0 w w' : World} {F M : Nat} {A : Option Addr} {c : Nat} {ps : List (List S71)} {n : Nat} (h : Frm w0 w F M A c ps n) (hk : Kept w w' (fun k => k = M)) {p : Addr} {v : Value} (hc : w.cell? p = some v) : w'.cell? p = some v := by
  obtain ⟨es, cl, hm⟩ := h.map
  exact cell_kept hc hk (fun e => by
    unfold World.cell? at hc
    rw [e, hm] at hc
    cases hc)
theorem Frm.blk {w0 w w' : World} {F M : Nat} {A : Option Addr} {c : Nat} {ps : List (List S71)} {n : Nat} (h : Frm w0 w F M A c ps n) (hk : Kept w w' (fun k => k = M)) {B : Nat} {cs : Array Value} {t : TypeId} {fr : Nat × Nat} (hc : w.heap[B]? = some (.cells cs t fr)) : w'.heap[B]? = some (.cells cs t fr) := by
  obtain ⟨es, cl, hm⟩ := h.map
  exact blk_kept hc hk (fun e => by
    rw [e, hm] at hc
    cases hc)
theorem Frm.offs {w0 w w' : World} {F M : Nat} {A : Option Addr} {c : Nat} {ps : List (List S71)} {n : Nat} (h : Frm w0 w F M A c ps n) (hk : Kept w w' (fun k => k = M)) {Al : Option Addr} {m : Nat} {l : List S71} (hC : Kd.C k71 w Al m l) : Kd.C k71 w' Al m l := by
  refine ⟨hC.1, hC.2.1, fun hn => ?_⟩
  obtain ⟨ad, e, hc⟩ := hC.2.2 hn
  refine ⟨ad, e, fun j p hj => ?_⟩
  obtain ⟨cs, hl, hR, hcell⟩ := hc j p hj
  refine ⟨cs, hl, ?_, fun i u hu => h.cell hk (hcell i u hu)⟩
  obtain rfl := k71_open hR
  exact k71_mk w' p
theorem Frm.more {w0 w : World} {F M : Nat} {A : Option Addr} {c : Nat} {ps : List (List S71)} {n m : Nat} (h : Frm w0 w F M A c ps n) (hm : n ≤ m) : Frm w0 w F M A c ps m := by
  obtain ⟨L, hv, hl, hp⟩ := h.hM
  exact ⟨h.bel, h.hF, ⟨L, hv, by omega, hp⟩, h.lo, h.C0, h.hc⟩
theorem kept_then {w w1 w2 : World} {M : Nat} (h : Kept w w1 (fun k => k = M)) (k : Kept w1 w2 (fun k => k = M)) : Kept w w2 (fun k => k = M) := h.then_ k (fun _ h => .inl h)
set_option maxRecDepth 100000 in
set_option maxHeartbeats 1000000 in
theorem impl_frame_alone.calls (w0 w : World) (F M : Nat) (A : Option Addr) (c : Nat) (ps : List (List S71)) (n : Nat) (Al : Option Addr) (cl : Nat) (l : List S71) (part x y z : Int) (hf : Frm w0 w F M A c ps n) (hr : Kd.C k71 w Al l.length l) (hl : l.length ≤ ps.length) (hl4 : l.length ≤ 4) (hp0 : 0 ≤ part) (hp1 : part < ps.length) (hn : n < 900000000) :
    Calls Try.prog 99 #[.pointer (some ⟨F, 0, none⟩), .slice Al l.length cl, .int .i64 part, .agg #[.int .i64 x, .int .i64 y, .int .i64 z]] w fun e w' => e = .returned (.bool (aloneG ps part x y z 0 l)) ∧ Frm w0 w' F M A c ps (n + l.length) ∧ Kept w w' (fun k => k = M) := by
  have HF := Aside0.mk hf
  have HR := Aside0.mk hr
  have hu71 := Try.underlying71
  clear hf hr
  go_enter Try.func99, Try.ntmps99
  go_wp2
  go_loopw [13] (fun i wr => ∃ kk : Nat, kk ≤ l.length ∧ i = .int .i64 kk ∧ Aside0 (aloneG ps part x y z 0 l = aloneG ps part x y z kk (l.drop kk)) ∧ Aside0 (Frm w0 wr F M A c ps (n + kk)) ∧ Aside0 (Kd.C k71 wr Al l.length l) ∧ Aside0 (wr.heap[w.heap.size]? = some (.cells #[.int .i64 x, .int .i64 y, .int .i64 z] 71 (0, 0))) ∧ Aside0 (Kept w wr (fun k => k = M))) (fun i _ => l.length - (intOf i).toNat)
  case atStart => exact ⟨0, Nat.zero_le _, rfl, ⟨rfl⟩, ⟨HF.out.below (below_alloc (Below.refl _ _) _)⟩, ⟨Kd.C_below HR.out (below_alloc (Below.refl _ _) _)⟩, ⟨heap_alloc_new w _⟩, ⟨Kept.of_below (below_alloc (Below.refl _ _) _) _⟩⟩
  case round =>
    obtain ⟨kk, hk, rfl, HG, HFr, HC, HB, HK⟩ := hrel
    by_cases hlt : kk < l.length
    · obtain ⟨ad, e, r0, r1, r2⟩ := at_T71 HC.out (kk : Int) (by omega) (by omega)
      subst e
      have hd : l.drop kk = rd_T71 l kk :: l.drop (kk + 1) := by
        rw [List.drop_eq_getElem_cons hlt]
        simp [rd_T71, List.getD_eq_getElem?_getD, List.getElem?_eq_getElem hlt]
      have HG2 := HG.out
      rw [hd, aloneG] at HG2
      clear hd
      rw [Int.toNat_natCast] at r0 r1 r2
      generalize rd_T71 l kk = q at HG2 r0 r1 r2
      have x0 := (blk_cell HB.out 0).trans rfl
      have x1 := (blk_cell HB.out 1).trans rfl
      have x2 := (blk_cell HB.out 2).trans rfl
      have lB := blk_lt HB.out
      have hT := fun (w1 : World) (hb : Below wr.heap.size wr w1) => impl_frame_touch.calls w0 w1 F M A c ps (n + kk) kk part (wrap64 (x - q.f0)) (wrap64 (y - q.f1)) (wrap64 (z - q.f2)) (HFr.out.below hb) (by omega) (by omega) hp0 hp1 (by omega) (rng_wrap _) (rng_wrap _) (rng_wrap _)
      have HAL := Aside0.mk (below_alloc (Below.refl wr.heap.size wr) (.cells #[.int .i64 q.f0, .int .i64 q.f1, .int .i64 q.f2] 71))
      cases he : ((kk : Int) == part) with
      | true =>
        have he2 : ((kk : Int) != part) = false := by simpa using he
        rw [he, Bool.true_or, Bool.true_and] at HG2
        have HG3 := Aside0.mk HG2
        clear HG2 hT
        go_wp2_with fail
        go_roundw
        case rel => exact ⟨kk + 1, by omega, by go_num, HG3, ⟨(HFr.out.below HAL.out).more (by omega)⟩, ⟨Kd.C_below HC.out HAL.out⟩, ⟨blk_below HB.out HAL.out⟩, ⟨kept_then HK.out (Kept.of_below HAL.out _)⟩⟩
        case measure => simp [intOf]; omega
      | false =>
        have he2 : ((kk : Int) != part) = true := by simpa using he
        rw [he, Bool.false_or] at HG2
        cases ht : touchC ps kk part (wrap64 (x - q.f0)) (wrap64 (y - q.f1)) (wrap64 (z - q.f2)) with
        | false =>
          rw [ht] at HG2 hT
          rw [Bool.not_false, Bool.true_and] at HG2
          have HG3 := Aside0.mk HG2
          have HT := Aside0.mk hT
          clear HG2 hT ht
          go_wp2_with (first
            | (go_at_call 111; (with_reducible refine (impl_minusCube.calls _ _ _ _ _ _ _ _ _ _ rfl).mono ?_); rintro e w5 ⟨rfl, hb5⟩; have HB5 := Aside0.mk (below_step HAL.out hb5); clear hb5)
            | (go_at_call 110; refine (HT.out _ HB5.out).mono ?_; rintro e w6 ⟨rfl, hf6, hk6⟩))
          go_roundw
          case rel => exact ⟨kk + 1, by omega, by go_num, HG3, ⟨hf6.more (by omega)⟩, ⟨(HFr.out.below HB5.out).offs hk6 (Kd.C_below HC.out HB5.out)⟩, ⟨(HFr.out.below HB5.out).blk hk6 (blk_below HB.out HB5.out)⟩, ⟨kept_then HK.out (kept_then (Kept.of_below HB5.out _) hk6)⟩⟩
          case measure => simp [intOf]; omega
        | true =>
          rw [ht] at HG2 hT
          rw [Bool.not_true, Bool.false_and] at HG2
          have HG3 := Aside0.mk HG2
          have HT := Aside0.mk hT
          clear HG2 hT ht
          go_wp2_with (first
            | (go_at_call 111; (with_reducible refine (impl_minusCube.calls _ _ _ _ _ _ _ _ _ _ rfl).mono ?_); rintro e w5 ⟨rfl, hb5⟩; have HB5 := Aside0.mk (below_step HAL.out hb5); clear hb5)
            | (go_at_call 110; refine (HT.out _ HB5.out).mono ?_; rintro e w6 ⟨rfl, hf6, hk6⟩))
          go_ret
          exact ⟨by rw [HG3.out]; rfl, hf6.more (by omega), kept_then HK.out (kept_then (Kept.of_below HB5.out _) hk6)⟩
    · have hkl : kk = l.length := by omega
      have HG2 := HG.out
      rw [hkl, List.drop_length] at HG2
      have HR2 := Aside0.mk HG2
      clear HG2 hkl
      go_wp2
      go_ret
      exact ⟨by rw [HR2.out]; rfl, HFr.out.more (by omega), HK.out⟩

end Go.Proofs.Ytjgnlakgojookaa.Q
